import PyProof.Rows.All
import Wide.All
import OpenK.AllK
import Wide.FinOn
import HandS.ForMost
import HandS.Deep
import HandS.IsInst
import HandS.ForExc
import KE.DataEq
import HandS.SortInts
import HandS.SortRule
import HandS.TupAny
import HandS.Style
import HandS.Wide
import HandS.Conv
import HandS.ExcCtx
import HandS.ExcIs
import HandS.HotCalls
import HandS.SetFor
import HandS.Strs
import HandS.TupSets
import PySem.Challenge.RW_bagtree_k07_least_by_all_orders
set_option Elab.async false
set_option linter.all false
set_option maxRecDepth 100000
set_option autoImplicit false
/-! DL1: data, what stands for it in a frozen part of the heap, slots, expressions. -/
namespace DL
open PySem PySem.Spec PyProof.Rows L2

/-- data -/
inductive D where
  | non | bl (b : Bool) | int (i : Int) | str (x : Str) | lst (xs : List D) | tup (xs : List D)
  | dct (kvs : List (List Int × Int)) | emp | scr (ns : List Int)
instance : Inhabited D := ⟨.non⟩

abbrev Fr := PySem.W.Frag
def dctO (kvs : List (List Int × Int)) : List (List Key × V) := kvs.map fun p => (p.1.map Sum.inl, V.int p.2)
mutual
def Rp (K : Fr) (H : Hp) : D → V → Prop
  | .non, v => v = .non
  | .bl b, v => v = .bl b
  | .int i, v => v = .int i
  | .str x, v => v = .str x
  | .lst xs, v => ∃ a vs, v = .ref a ∧ H a = some (.lst vs) ∧ RpL K H xs vs
  | .tup xs, v => ∃ a vs, v = .ref a ∧ H a = some (.tup vs) ∧ RpL K H xs vs
  | .dct kvs, v => ∃ a, v = .ref a ∧ H a = some (.dT (dctO kvs))
  | .emp, v => ∃ a, v = .ref a ∧ H a = some (.dK [])
  | .scr ns, v => ∃ a, v = .ref a ∧ SqL K H a (ns.map V.int)
def RpL (K : Fr) (H : Hp) : List D → List V → Prop
  | [], vs => vs = []
  | x :: xs, vs => ∃ v r, vs = v :: r ∧ Rp K H x v ∧ RpL K H xs r
end
section
variable {K : Fr} {H H' : Hp}
mutual
theorem Rp.mono (h : Same H H') : ∀ {d : D} {v : V}, Rp K H d v → Rp K H' d v
  | .non, _, q => q
  | .bl _, _, q => q
  | .int _, _, q => q
  | .str _, _, q => q
  | .lst xs, _, ⟨a, vs, e, q, r⟩ => ⟨a, vs, e, h _ _ q, RpL.mono h r⟩
  | .tup xs, _, ⟨a, vs, e, q, r⟩ => ⟨a, vs, e, h _ _ q, RpL.mono h r⟩
  | .dct kvs, _, ⟨a, e, q⟩ => ⟨a, e, h _ _ q⟩
  | .emp, _, ⟨a, e, q⟩ => ⟨a, e, h _ _ q⟩
  | .scr ns, _, ⟨a, e, q⟩ => ⟨a, e, h.seq q⟩
theorem RpL.mono (h : Same H H') : ∀ {ds : List D} {vs : List V}, RpL K H ds vs → RpL K H' ds vs
  | [], _, q => q
  | _ :: _, _, ⟨v, r, e, q, t⟩ => ⟨v, r, e, Rp.mono h q, RpL.mono h t⟩
end
theorem RpL.length : ∀ {ds : List D} {vs : List V}, RpL K H ds vs → vs.length = ds.length
  | [], _, q => by cases (show _ = [] from q); rfl
  | d :: ds, _, ⟨v, r, e, q, t⟩ => by subst e; simp [RpL.length t]
theorem RpL.get : ∀ {ds : List D} {vs : List V} {i : Nat} {d : D}, RpL K H ds vs → ds[i]? = some d → ∃ v, vs[i]? = some v ∧ Rp K H d v
  | [], _, _, _, _, e => by simp at e
  | d :: ds, _, 0, _, ⟨v, r, e, q, t⟩, h => by subst e; simp at h; subst h; exact ⟨v, rfl, q⟩
  | d :: ds, _, i + 1, _, ⟨v, r, e, q, t⟩, h => by subst e; simpa using RpL.get (i := i) t (by simpa using h)
theorem RpL.get' {ds : List D} {vs : List V} {i : Nat} {v : V} (r : RpL K H ds vs) (e : vs[i]? = some v) : ∃ d, ds[i]? = some d ∧ Rp K H d v := by
  have h1 : i < ds.length := by rw [← r.length]; exact (List.getElem?_eq_some_iff.mp e).1
  obtain ⟨u, h2, h3⟩ := r.get (List.getElem?_eq_getElem h1)
  rw [e] at h2; cases h2
  exact ⟨_, List.getElem?_eq_getElem h1, h3⟩
theorem RpL.append : ∀ {ds es : List D} {vs us : List V}, RpL K H ds vs → RpL K H es us → RpL K H (ds ++ es) (vs ++ us)
  | [], _, _, _, q, s => by cases (show _ = [] from q); exact s
  | d :: ds, _, _, _, ⟨v, r, e, q, t⟩, s => by subst e; exact ⟨v, r ++ _, rfl, q, RpL.append t s⟩
theorem RpL.one {d : D} {v : V} (h : Rp K H d v) : RpL K H [d] [v] := ⟨v, [], rfl, h, rfl⟩
theorem RpL.nil : RpL K H [] [] := rfl
theorem RpL.cons {d : D} {v : V} {ds : List D} {vs : List V} (h : Rp K H d v) (t : RpL K H ds vs) : RpL K H (d :: ds) (v :: vs) := ⟨v, vs, rfl, h, t⟩
theorem RpL.drop : ∀ {ds : List D} {vs : List V} (n : Nat), RpL K H ds vs → RpL K H (ds.drop n) (vs.drop n)
  | _, _, 0, r => by simpa using r
  | [], _, n + 1, q => by cases (show _ = [] from q); simpa using RpL.nil
  | d :: ds, _, n + 1, ⟨v, r, e, q, t⟩ => by subst e; simpa using RpL.drop n t
theorem RpL.take : ∀ {ds : List D} {vs : List V} (n : Nat), RpL K H ds vs → RpL K H (ds.take n) (vs.take n)
  | _, _, 0, r => by simpa using RpL.nil
  | [], _, n + 1, q => by cases (show _ = [] from q); simpa using RpL.nil
  | d :: ds, _, n + 1, ⟨v, r, e, q, t⟩ => by subst e; simpa using RpL.cons q (RpL.take n t)
theorem RpL.set : ∀ {ds : List D} {vs : List V} {d : D} {v : V} (n : Nat), RpL K H ds vs → Rp K H d v → RpL K H (ds.set n d) (vs.set n v)
  | [], _, _, _, _, q, _ => by cases (show _ = [] from q); simpa using RpL.nil
  | _ :: ds, _, _, _, 0, ⟨v, r, e, q, t⟩, h => by subst e; exact ⟨_, r, rfl, h, t⟩
  | _ :: ds, _, _, _, n + 1, ⟨v, r, e, q, t⟩, h => by subst e; exact ⟨v, _, rfl, q, RpL.set n t h⟩
theorem RpL.eraseIdx : ∀ {ds : List D} {vs : List V} (n : Nat), RpL K H ds vs → RpL K H (ds.eraseIdx n) (vs.eraseIdx n)
  | [], _, _, q => by cases (show _ = [] from q); simpa using RpL.nil
  | _ :: ds, _, 0, ⟨v, r, e, q, t⟩ => by subst e; simpa using t
  | _ :: ds, _, n + 1, ⟨v, r, e, q, t⟩ => by subst e; simpa using RpL.cons q (RpL.eraseIdx n t)
theorem RpL.reverse : ∀ {ds : List D} {vs : List V}, RpL K H ds vs → RpL K H ds.reverse vs.reverse
  | [], _, q => by cases (show _ = [] from q); simpa using RpL.nil
  | d :: ds, _, ⟨v, r, e, q, t⟩ => by
    subst e
    rw [List.reverse_cons, List.reverse_cons]
    exact RpL.append (RpL.reverse t) (RpL.one q)
theorem RpL.ints : ∀ {ns : List Int}, RpL K H (ns.map D.int) (ns.map V.int)
  | [] => rfl
  | n :: ns => ⟨_, _, rfl, rfl, RpL.ints⟩
theorem RpL.ints_eq : ∀ {ns : List Int} {vs : List V}, RpL K H (ns.map D.int) vs → vs = ns.map V.int
  | [], _, q => q
  | n :: ns, _, ⟨v, r, e, q, t⟩ => by
    subst e
    rw [RpL.ints_eq t]
    cases (show v = .int n from q)
    rfl
theorem RpL.bls_eq : ∀ {ns : List Bool} {vs : List V}, RpL K H (ns.map D.bl) vs → vs = ns.map V.bl
  | [], _, q => q
  | n :: ns, _, ⟨v, r, e, q, t⟩ => by
    subst e
    rw [RpL.bls_eq t]
    cases (show v = .bl n from q)
    rfl
theorem RpL.append_inv : ∀ {ds es : List D} {vs : List V}, RpL K H (ds ++ es) vs → ∃ us ws, vs = us ++ ws ∧ RpL K H ds us ∧ RpL K H es ws
  | [], _, vs, q => ⟨[], vs, rfl, rfl, q⟩
  | d :: ds, _, _, ⟨v, r, e, q, t⟩ => by
    obtain ⟨us, ws, e2, h1, h2⟩ := RpL.append_inv t
    subst e e2
    exact ⟨v :: us, ws, rfl, RpL.cons q h1, h2⟩
end

/-! ### the heap and its frozen part -/
def Ext (H Hf H' Hf' : Hp) : Prop := Same H H' ∧ Same Hf Hf' ∧ Same Hf' H' ∧ ∀ b, Hf' b = none ∨ Hf b ≠ none ∨ H b = none ∨ ∃ xs, H b = some (.tup xs)
section
variable {H Hf H1 Hf1 H2 Hf2 : Hp}
theorem Ext.refl (h : Same Hf H) : Ext H Hf H Hf := ⟨Same.refl _, Same.refl _, h, fun b => by
  cases q : Hf b with
  | none => exact .inl rfl
  | some _ => exact .inr (.inl (fun z => nomatch z))⟩
theorem Ext.trans (a : Ext H Hf H1 Hf1) (b : Ext H1 Hf1 H2 Hf2) : Ext H Hf H2 Hf2 := ⟨a.1.trans b.1, a.2.1.trans b.2.1, b.2.2.1, fun c => by
  rcases b.2.2.2 c with q | q | q | ⟨xs, q⟩
  · exact .inl q
  · rcases a.2.2.2 c with z | z | z | z
    · exact absurd z q
    · exact .inr (.inl z)
    · exact .inr (.inr (.inl z))
    · exact .inr (.inr (.inr z))
  · exact .inr (.inr (.inl (a.1.free q)))
  · cases e : H c with
    | none => exact .inr (.inr (.inl rfl))
    | some o =>
      have := a.1 c o e
      rw [q] at this; cases this
      exact .inr (.inr (.inr ⟨xs, rfl⟩))⟩
theorem same_upd {H : Hp} {p : Addr} {o : HO} (h : H p = none) : Same H (upd H p o) := fun b x e => by
  rw [upd_ne (ne_of_none e h)]
  exact e
theorem free_sub {p : Addr} (s : Same Hf H) (h : H p = none) : Hf p = none := s.free h
theorem Ext.new {p : Addr} {o : HO} (s : Same Hf H) (h : H p = none) : Ext H Hf (upd H p o) (upd Hf p o) := by
  have hf : Hf p = none := s.free h
  refine ⟨same_upd h, same_upd hf, fun b x e => ?_, fun b => ?_⟩
  · by_cases hb : b = p
    · subst hb; rw [upd_same] at e ⊢; exact e
    · rw [upd_ne hb] at e ⊢; exact s _ _ e
  · by_cases hb : b = p
    · subst hb; exact .inr (.inr (.inl h))
    · cases q : Hf b with
      | none => exact .inl (by rw [upd_ne hb]; exact q)
      | some _ => exact .inr (.inl (fun z => nomatch z))
end

/-! ### slots -/
inductive Sl where
  | no | sh (d : D) | ol (ds : List D) | ok (kvs : List (Int × D)) | ot (kvs : List (List Int × D)) | oll (rows : List (List D)) | ow (k : Nat) (d : D) | at (a : Addr) | od (a : Addr) (kvs : List (List Int × D))
abbrev En := List Sl
def kvO (kvs : List (Int × D)) (ws : List V) : List (Key × V) := (kvs.map fun p => (Sum.inl p.1 : Key)).zip ws
def ktO (kvs : List (List Int × D)) (ws : List V) : List (List Key × V) := (kvs.map fun p => (p.1.map Sum.inl : List Key)).zip ws
/-- the rows of a list of lists: each at its own address -/
inductive RowsAt (K : Fr) (Hf H : Hp) : List (List D) → List Addr → Prop
  | nil : RowsAt K Hf H [] []
  | cons {ds : List D} {vs : List V} {rows : List (List D)} {b : Addr} {bs : List Addr} : H b = some (.lst vs) → RpL K Hf ds vs → RowsAt K Hf H rows bs → RowsAt K Hf H (ds :: rows) (b :: bs)
/-- owned trees -/
def OwnL (R : D → V → List Addr → Prop) : List D → List V → List Addr → Prop
  | [], vs, O => vs = [] ∧ O = []
  | d :: ds, vs, O => ∃ v r O1 O2, vs = v :: r ∧ O = O1 ++ O2 ∧ R d v O1 ∧ OwnL R ds r O2
def OwnR (K : Fr) (Hf H : Hp) : Nat → D → V → List Addr → Prop
  | 0, d, v, O => O = [] ∧ Rp K Hf d v
  | k + 1, d, v, O => match d with
    | .lst ds => ∃ a vs O', v = .ref a ∧ O = a :: O' ∧ H a = some (.lst vs) ∧ OwnL (OwnR K Hf H k) ds vs O'
    | .tup ds => ∃ a vs, v = .ref a ∧ Hf a = some (.tup vs) ∧ OwnL (OwnR K Hf H k) ds vs O
    | d => O = [] ∧ Rp K Hf d v
theorem OwnL.imp {R R' : D → V → List Addr → Prop} : ∀ {ds : List D} {vs : List V} {O : List Addr}, OwnL R ds vs O → (∀ d v O', (∀ a ∈ O', a ∈ O) → R d v O' → R' d v O') → OwnL R' ds vs O
  | [], _, _, q, _ => q
  | _ :: _, _, _, ⟨v, r, O1, O2, e1, e2, h, t⟩, i => ⟨v, r, O1, O2, e1, e2, i _ _ _ (fun a ha => by rw [e2]; simp [ha]) h, OwnL.imp t fun d v O' s => i d v O' fun a ha => by rw [e2]; simp [s a ha]⟩
theorem OwnR.ext {K : Fr} {Hf H Hf' H' : Hp} (h1 : Same Hf Hf') : ∀ {k : Nat} {d : D} {v : V} {O : List Addr}, OwnR K Hf H k d v O → (∀ a ∈ O, ∀ u, H a = some u → H' a = some u) → OwnR K Hf' H' k d v O
  | 0, _, _, _, ⟨e, r⟩, _ => ⟨e, r.mono h1⟩
  | k + 1, .lst ds, _, _, ⟨a, vs, O', e1, e2, e3, t⟩, h => ⟨a, vs, O', e1, e2, h a (by rw [e2]; simp) _ e3, OwnL.imp t fun d v O2 s r => r.ext h1 fun c hc => h c (by rw [e2]; simp [s c hc])⟩
  | k + 1, .tup ds, _, _, ⟨a, vs, e1, e3, t⟩, h => ⟨a, vs, e1, h1 _ _ e3, OwnL.imp t fun d v O2 s r => r.ext h1 fun c hc => h c (s c hc)⟩
  | k + 1, .non, _, _, ⟨e, r⟩, _ => ⟨e, Rp.mono h1 r⟩
  | k + 1, .bl _, _, _, ⟨e, r⟩, _ => ⟨e, Rp.mono h1 r⟩
  | k + 1, .int _, _, _, ⟨e, r⟩, _ => ⟨e, Rp.mono h1 r⟩
  | k + 1, .str _, _, _, ⟨e, r⟩, _ => ⟨e, Rp.mono h1 r⟩
  | k + 1, .dct _, _, _, ⟨e, r⟩, _ => ⟨e, Rp.mono h1 r⟩
  | k + 1, .emp, _, _, ⟨e, r⟩, _ => ⟨e, Rp.mono h1 r⟩
  | k + 1, .scr _, _, _, ⟨e, r⟩, _ => ⟨e, Rp.mono h1 r⟩
theorem OwnL.there {R : D → V → List Addr → Prop} {P : Addr → Prop} : ∀ {ds : List D} {vs : List V} {O : List Addr}, OwnL R ds vs O → (∀ d v O', R d v O' → ∀ a ∈ O', P a) → ∀ a ∈ O, P a
  | [], _, _, q, _, a, ha => by rw [q.2] at ha; simp at ha
  | _ :: _, _, _, ⟨v, r, O1, O2, e1, e2, h, t⟩, i, a, ha => by
    rw [e2] at ha
    rcases List.mem_append.mp ha with ha | ha
    · exact i _ _ _ h a ha
    · exact t.there i a ha
theorem OwnR.there {K : Fr} {Hf H : Hp} : ∀ {k : Nat} {d : D} {v : V} {O : List Addr}, OwnR K Hf H k d v O → ∀ a ∈ O, ∃ vs, H a = some (.lst vs)
  | 0, _, _, _, ⟨e, r⟩, a, ha => by rw [e] at ha; simp at ha
  | k + 1, .lst ds, _, _, ⟨a', vs, O', e1, e2, e3, t⟩, a, ha => by
    rw [e2] at ha
    rcases List.mem_cons.mp ha with rfl | ha
    · exact ⟨_, e3⟩
    · exact OwnL.there (P := fun a => ∃ vs, H a = some (.lst vs)) t (fun d v O2 r => OwnR.there r) a ha
  | k + 1, .tup ds, _, _, ⟨a', vs, e1, e3, t⟩, a, ha => OwnL.there (P := fun a => ∃ vs, H a = some (.lst vs)) t (fun d v O2 r => OwnR.there r) a ha
  | k + 1, .non, _, _, ⟨e, r⟩, a, ha => by rw [e] at ha; simp at ha
  | k + 1, .bl _, _, _, ⟨e, r⟩, a, ha => by rw [e] at ha; simp at ha
  | k + 1, .int _, _, _, ⟨e, r⟩, a, ha => by rw [e] at ha; simp at ha
  | k + 1, .str _, _, _, ⟨e, r⟩, a, ha => by rw [e] at ha; simp at ha
  | k + 1, .dct _, _, _, ⟨e, r⟩, a, ha => by rw [e] at ha; simp at ha
  | k + 1, .emp, _, _, ⟨e, r⟩, a, ha => by rw [e] at ha; simp at ha
  | k + 1, .scr _, _, _, ⟨e, r⟩, a, ha => by rw [e] at ha; simp at ha
def SlOk (K : Fr) (Hf H : Hp) : Sl → Option V → List Addr → Prop
  | .at a, o, O => O = [] ∧ o = some (.ref a)
  | .od a kvs, o, O => ∃ ws, O = [a] ∧ o = some (.ref a) ∧ H a = some (.dT (ktO kvs ws)) ∧ RpL K Hf (kvs.map (·.2)) ws
  | .ow k d, o, O => O.Nodup ∧ ∃ v, o = some v ∧ OwnR K Hf H k d v O
  | .no, _, O => O = []
  | .sh d, o, O => O = [] ∧ ∃ v, o = some v ∧ Rp K Hf d v
  | .ol ds, o, O => ∃ a vs, O = [a] ∧ o = some (.ref a) ∧ H a = some (.lst vs) ∧ RpL K Hf ds vs
  | .ok kvs, o, O => ∃ a ws, O = [a] ∧ o = some (.ref a) ∧ H a = some (.dK (kvO kvs ws)) ∧ RpL K Hf (kvs.map (·.2)) ws
  | .ot kvs, o, O => ∃ a ws, O = [a] ∧ o = some (.ref a) ∧ H a = some (.dT (ktO kvs ws)) ∧ RpL K Hf (kvs.map (·.2)) ws
  | .oll rows, o, O => ∃ a bs, O = a :: bs ∧ o = some (.ref a) ∧ H a = some (.lst (bs.map V.ref)) ∧ RowsAt K Hf H rows bs ∧ (a :: bs).Nodup

theorem RowsAt.ext {K : Fr} {Hf H Hf' H' : Hp} (h1 : Same Hf Hf') : ∀ {rows : List (List D)} {bs : List Addr}, RowsAt K Hf H rows bs → (∀ b ∈ bs, ∀ o, H b = some o → H' b = some o) → RowsAt K Hf' H' rows bs
  | _, _, .nil, _ => .nil
  | _, _, .cons e r t, h => .cons (h _ (by simp) _ e) (r.mono h1) (t.ext h1 fun b hb => h b (by simp [hb]))
theorem RowsAt.there {K : Fr} {Hf H : Hp} : ∀ {rows : List (List D)} {bs : List Addr}, RowsAt K Hf H rows bs → ∀ b ∈ bs, ∃ vs, H b = some (.lst vs)
  | _, _, .cons e r t, b, hb => by
    rcases List.mem_cons.mp hb with rfl | hb
    · exact ⟨_, e⟩
    · exact t.there b hb
theorem RowsAt.length {K : Fr} {Hf H : Hp} : ∀ {rows : List (List D)} {bs : List Addr}, RowsAt K Hf H rows bs → bs.length = rows.length
  | _, _, .nil => rfl
  | _, _, .cons e r t => by simp [t.length]
/-- what is owned stands in the heap, as a list or a dict -/
theorem SlOk.there {K : Fr} {Hf H : Hp} {s : Sl} {o : Option V} {O : List Addr} (h : SlOk K Hf H s o O) : ∀ a ∈ O, ∃ u, H a = some u ∧ Mut (some u) ∧ ∀ xs, u ≠ .tup xs := by
  intro a ha
  cases s with
  | no => cases (show O = [] from h); simp at ha
  | sh d => obtain ⟨rfl, _⟩ := h; simp at ha
  | ol ds => obtain ⟨a', vs, rfl, _, q, _⟩ := h; simp at ha; subst ha; exact ⟨_, q, trivial, fun _ z => nomatch z⟩
  | ok ds => obtain ⟨a', vs, rfl, _, q, _⟩ := h; simp at ha; subst ha; exact ⟨_, q, trivial, fun _ z => nomatch z⟩
  | ot ds => obtain ⟨a', vs, rfl, _, q, _⟩ := h; simp at ha; subst ha; exact ⟨_, q, trivial, fun _ z => nomatch z⟩
  | oll rows =>
    obtain ⟨a', bs, rfl, _, q, r, _⟩ := h
    rcases List.mem_cons.mp ha with rfl | ha
    · exact ⟨_, q, trivial, fun _ z => nomatch z⟩
    · obtain ⟨vs, e⟩ := r.there a ha
      exact ⟨_, e, trivial, fun _ z => nomatch z⟩
  | «at» a' => cases (show O = [] from h.1); simp at ha
  | od a' ds => obtain ⟨vs, rfl, _, q, _⟩ := h; simp at ha; subst ha; exact ⟨_, q, trivial, fun _ z => nomatch z⟩
  | ow k d =>
    obtain ⟨_, v, _, r⟩ := h
    obtain ⟨vs, e⟩ := r.there a ha
    exact ⟨_, e, trivial, fun _ z => nomatch z⟩
theorem SlOk.ext {K : Fr} {Hf H Hf' H' : Hp} {s : Sl} {o : Option V} {O : List Addr} (h : SlOk K Hf H s o O) (h1 : Same Hf Hf') (h2 : ∀ a ∈ O, ∀ u, H a = some u → H' a = some u) : SlOk K Hf' H' s o O := by
  cases s with
  | no => exact h
  | sh d => obtain ⟨rfl, v, e, r⟩ := h; exact ⟨rfl, v, e, r.mono h1⟩
  | ol ds => obtain ⟨a', vs, rfl, e, q, r⟩ := h; exact ⟨a', vs, rfl, e, h2 _ (by simp) _ q, r.mono h1⟩
  | ok ds => obtain ⟨a', vs, rfl, e, q, r⟩ := h; exact ⟨a', vs, rfl, e, h2 _ (by simp) _ q, r.mono h1⟩
  | ot ds => obtain ⟨a', vs, rfl, e, q, r⟩ := h; exact ⟨a', vs, rfl, e, h2 _ (by simp) _ q, r.mono h1⟩
  | oll rows =>
    obtain ⟨a', bs, rfl, e, q, r, nd⟩ := h
    exact ⟨a', bs, rfl, e, h2 _ (by simp) _ q, r.ext h1 (fun b hb => h2 b (by simp [hb])), nd⟩
  | ow k d => obtain ⟨nd, v, e, r⟩ := h; exact ⟨nd, v, e, r.ext h1 h2⟩
  | «at» a' => exact h
  | od a' ds => obtain ⟨vs, rfl, e, q, r⟩ := h; exact ⟨vs, rfl, e, h2 _ (by simp) _ q, r.mono h1⟩

structure Wf (K : Fr) (H0 Hf0 : Hp) (Γ : En) (σ : L2.St) (H Hf : Hp) : Prop where
  sub : Same Hf H
  sub0 : Same Hf0 Hf
  same0 : Same H0 H
  new : ∀ b, Hf b = none ∨ Hf0 b ≠ none ∨ H0 b = none ∨ ∃ xs, H0 b = some (.tup xs)
  len : Γ.length = σ.length
  own : ∃ ow : Nat → List Addr, (∀ i s, Γ[i]? = some s → ∃ o, σ[i]? = some o ∧ SlOk K Hf H s o (ow i)) ∧ (∀ i j, i ≠ j → ∀ a ∈ ow i, a ∉ ow j) ∧
    ∀ i a, a ∈ ow i → Hf a = none ∧ H0 a = none ∧ ∃ u, H a = some u ∧ Mut (some u) ∧ ∀ xs, u ≠ .tup xs
abbrev H00 : Hp := fun _ => none
abbrev W0 (K : Fr) (Γ : En) (σ : L2.St) (H Hf : Hp) : Prop := Wf K H00 H00 Γ σ H Hf
section
variable {K : Fr} {H0 Hf0 H Hf H' Hf' : Hp} {Γ : En} {σ : L2.St}
theorem same_none {H : Hp} : Same H00 H := fun _ _ z => nomatch z
theorem Wf.w0 (w : Wf K H0 Hf0 Γ σ H Hf) : W0 K Γ σ H Hf :=
  ⟨w.sub, same_none, same_none, fun b => .inr (.inr (.inl rfl)), w.len, let ⟨ow, h1, h2, h3⟩ := w.own; ⟨ow, h1, h2, fun i a ha => let ⟨x, _, z⟩ := h3 i a ha; ⟨x, rfl, z⟩⟩⟩
theorem Wf.ext (w : Wf K H0 Hf0 Γ σ H Hf) (e : Ext H Hf H' Hf') : Wf K H0 Hf0 Γ σ H' Hf' := by
  refine ⟨e.2.2.1, w.sub0.trans e.2.1, w.same0.trans e.1, fun b => ?_, w.len, ?_⟩
  · rcases e.2.2.2 b with q | q | q | ⟨xs, q⟩
    · exact .inl q
    · rcases w.new b with z | z | z
      · exact absurd z q
      · exact .inr (.inl z)
      · exact .inr (.inr z)
    · exact .inr (.inr (.inl (w.same0.free q)))
    · cases z : H0 b with
      | none => exact .inr (.inr (.inl rfl))
      | some u =>
        have := w.same0 b u z
        rw [q] at this; cases this
        exact .inr (.inr (.inr ⟨xs, rfl⟩))
  · obtain ⟨ow, h1, h2, h3⟩ := w.own
    refine ⟨ow, fun i s hs => ?_, h2, fun i a ha => ?_⟩
    · obtain ⟨o, e1, e2⟩ := h1 i s hs
      exact ⟨o, e1, e2.ext e.2.1 fun a _ u q => e.1 a u q⟩
    · obtain ⟨x, y, u, hu, mu, nt⟩ := h3 i a ha
      refine ⟨?_, y, u, e.1 a u hu, mu, nt⟩
      rcases e.2.2.2 a with q | q | q | ⟨xs, q⟩
      · exact q
      · exact absurd x q
      · rw [q] at hu; cases hu
      · rw [q] at hu; cases hu; exact absurd rfl (nt xs)
/-- a slot gets shared data -/
theorem Wf.setSh (w : Wf K H0 Hf0 Γ σ H Hf) {i : Nat} {d : D} {v : V} (r : Rp K Hf d v) : Wf K H0 Hf0 (Γ.set i (.sh d)) (σ.set i (some v)) H Hf := by
  refine ⟨w.sub, w.sub0, w.same0, w.new, by simpa using w.len, ?_⟩
  obtain ⟨ow, h1, h2, h3⟩ := w.own
  refine ⟨fun j => if j = i then [] else ow j, fun j s hs => ?_, fun j k hjk a ha => ?_, fun j a ha => ?_⟩
  · by_cases hj : j = i
    · subst hj
      have hl : j < Γ.length := by
        have := (List.getElem?_eq_some_iff.mp hs).1
        simpa using this
      rw [List.getElem?_set_self hl] at hs
      cases hs
      refine ⟨some v, List.getElem?_set_self (by rw [← w.len]; exact hl), ?_⟩
      simp only [if_pos]
      exact ⟨rfl, v, rfl, r⟩
    · rw [List.getElem?_set_ne (Ne.symm hj)] at hs
      obtain ⟨o, e1, e2⟩ := h1 j s hs
      refine ⟨o, by rw [List.getElem?_set_ne (Ne.symm hj)]; exact e1, ?_⟩
      simp only [if_neg hj]
      exact e2
  · by_cases hj : j = i
    · simp [hj] at ha
    · by_cases hk : k = i
      · simp [hk]
      · simp only [if_neg hj] at ha
        simp only [if_neg hk]
        exact h2 j k hjk a ha
  · by_cases hj : j = i
    · simp [hj] at ha
    · simp only [if_neg hj] at ha
      exact h3 j a ha
/-- slots forgotten -/
theorem Wf.no (w : Wf K H0 Hf0 Γ σ H Hf) (i : Nat) (o : Option V) : Wf K H0 Hf0 (Γ.set i .no) (σ.set i o) H Hf := by
  refine ⟨w.sub, w.sub0, w.same0, w.new, by simpa using w.len, ?_⟩
  obtain ⟨ow, h1, h2, h3⟩ := w.own
  refine ⟨fun j => if j = i then [] else ow j, fun j s hs => ?_, fun j k hjk a ha => ?_, fun j a ha => ?_⟩
  · by_cases hj : j = i
    · subst hj
      have hl : j < Γ.length := by
        have := (List.getElem?_eq_some_iff.mp hs).1
        simpa using this
      rw [List.getElem?_set_self hl] at hs
      cases hs
      refine ⟨o, List.getElem?_set_self (by rw [← w.len]; exact hl), ?_⟩
      simp only [if_pos]
      rfl
    · rw [List.getElem?_set_ne (Ne.symm hj)] at hs
      obtain ⟨o, e1, e2⟩ := h1 j s hs
      refine ⟨o, by rw [List.getElem?_set_ne (Ne.symm hj)]; exact e1, ?_⟩
      simp only [if_neg hj]
      exact e2
  · by_cases hj : j = i
    · simp [hj] at ha
    · by_cases hk : k = i
      · simp [hk]
      · simp only [if_neg hj] at ha
        simp only [if_neg hk]
        exact h2 j k hjk a ha
  · by_cases hj : j = i
    · simp [hj] at ha
    · simp only [if_neg hj] at ha
      exact h3 j a ha
def wipeE (Γ : En) : List Nat → En
  | [] => Γ
  | v :: vs => (wipeE Γ vs).set v .no
theorem Wf.wipe (w : Wf K H0 Hf0 Γ σ H Hf) : ∀ vs : List Nat, Wf K H0 Hf0 (wipeE Γ vs) (L2.wipe σ vs) H Hf
  | [] => w
  | v :: vs => (w.wipe vs).no v none
/-- the frozen part is looked at anew -/
theorem Wf.rebase (w : Wf K H0 Hf0 Γ σ H Hf) : Wf K H0 Hf Γ σ H Hf := ⟨w.sub, Same.refl _, w.same0, fun b => by
  cases q : Hf b with
  | none => exact .inl rfl
  | some _ => exact .inr (.inl (fun z => nomatch z)), w.len, w.own⟩
theorem Wf.compose {Hfs : Hp} (s : Same Hf0 Hfs) (n : ∀ b, Hfs b = none ∨ Hf0 b ≠ none ∨ H0 b = none ∨ ∃ xs, H0 b = some (.tup xs)) (w : Wf K H0 Hfs Γ σ H Hf) : Wf K H0 Hf0 Γ σ H Hf :=
  ⟨w.sub, s.trans w.sub0, w.same0, fun b => by
    rcases w.new b with q | q | q
    · exact .inl q
    · rcases n b with z | z | z
      · exact absurd z q
      · exact .inr (.inl z)
      · exact .inr (.inr z)
    · exact .inr (.inr q), w.len, w.own⟩
end

/-! ### looking up slots -/
def gv : En → Nat → Option D
  | .sh d :: _, 0 => some d
  | _ :: r, n + 1 => gv r n
  | _, _ => none
theorem gv_get : ∀ {Γ : En} {i : Nat} {d : D}, gv Γ i = some d → Γ[i]? = some (.sh d)
  | [], _, _, h => by cases h
  | .sh _ :: _, 0, _, h => by cases h; rfl
  | .no :: _, 0, _, h => by cases h
  | .ol _ :: _, 0, _, h => by cases h
  | .ok _ :: _, 0, _, h => by cases h
  | .ot _ :: _, 0, _, h => by cases h
  | .oll _ :: _, 0, _, h => by cases h
  | s :: r, n + 1, d, h => by
    rw [List.getElem?_cons_succ]
    have h' : gv r n = some d := by cases s <;> exact h
    exact gv_get h'

/-! ### expressions -/
def tE (K : Fr) (f : En → Option D) : TE := fun σ H Q => ∃ Γ Hf d, W0 K Γ σ H Hf ∧ f Γ = some d ∧ ∀ v H' Hf', Ext H Hf H' Hf' → Rp K Hf' d v → Q v H'
def tA' (K : Fr) (f : En → Option (List D)) : TA := fun σ H Q => ∃ Γ Hf d, W0 K Γ σ H Hf ∧ f Γ = some d ∧ ∀ v H' Hf', Ext H Hf H' Hf' → RpL K Hf' d v → Q v H'
def tT (K : Fr) (f : En → Option Bool) : TT := fun σ H Q => ∃ Γ Hf b, W0 K Γ σ H Hf ∧ f Γ = some b ∧ ∀ H' Hf', Ext H Hf H' Hf' → Q b H'
structure EV (X : Cx) (e : Expr) (f : En → Option D) : Prop where
  pe : PE X e (tE X.K f)
structure AV (X : Cx) (es : List Expr) (f : En → Option (List D)) : Prop where
  pa : PA X es (tA' X.K f)
structure TV (X : Cx) (e : Expr) (f : En → Option Bool) : Prop where
  pt : PT X e (tT X.K f)
structure TW (X : Cx) (e : Expr) (f : En → Option Bool) : Prop where
  pw : PW X e (tT X.K f)
section
variable {X : Cx} {e a b : Expr}
theorem PE.imp {t t' : TE} (h : PE X e t) (i : ∀ σ H Q, t' σ H Q → t σ H Q) : PE X e t' := ⟨fun pins s σ H Q I q => h.run pins s σ H Q I (i _ _ _ q)⟩
theorem PT.imp {t t' : TT} (h : PT X e t) (i : ∀ σ H Q, t' σ H Q → t σ H Q) : PT X e t' := ⟨fun pins s σ H Q I q => h.run pins s σ H Q I (i _ _ _ q)⟩
theorem PW.imp {t t' : TT} (h : PW X e t) (i : ∀ σ H Q, t' σ H Q → t σ H Q) : PW X e t' := ⟨fun wh pins s σ H Q I q => h.run wh pins s σ H Q I (i _ _ _ q)⟩
theorem PA.imp {es : List Expr} {t t' : TA} (h : PA X es t) (i : ∀ σ H Q, t' σ H Q → t σ H Q) : PA X es t' := ⟨fun pos pins s σ H Q I q => h.run pos pins s σ H Q I (i _ _ _ q)⟩
theorem PS.imp {st : Stmt} {t t' : TS} (h : PS X st t) (i : ∀ D σ H, t' D σ H → t D σ H) : PS X st t' := ⟨fun pins s σ H D I q => h.run pins s σ H D I (i _ _ _ q)⟩
theorem PSs.imp {st : List Stmt} {t t' : TS} (h : PSs X st t) (i : ∀ D σ H, t' D σ H → t D σ H) : PSs X st t' := ⟨fun pins s σ H D I q => h.run pins s σ H D I (i _ _ _ q)⟩
theorem PG.imp {tg : Expr} {t t' : TG} (h : PG X tg t) (i : ∀ v σ H Q, t' v σ H Q → t v σ H Q) : PG X tg t' := ⟨fun pins s σ H v u Q I r q => h.run pins s σ H v u Q I r (i _ _ _ _ q)⟩
theorem PI.imp {tg it : Expr} {t t' : TI} (h : PI X tg it t) (i : ∀ σ H R, t' σ H R → t σ H R) : PI X tg it t' := ⟨fun pins s σ H R I q => h.run pins s σ H R I (i _ _ _ q)⟩

def eVar (i : Nat) : En → Option D := fun Γ => gv Γ i
theorem ev_of {t : TE} {f : En → Option D} (h : PE X e t) (i : ∀ σ H Q, tE X.K f σ H Q → t σ H Q) : EV X e f := ⟨PE.imp h i⟩
theorem ev_var {i : Nat} (h : PE X e (tVar i)) : EV X e (eVar i) := by
  refine ev_of h fun σ H Q ⟨Γ, Hf, d, w, e1, q⟩ => ?_
  obtain ⟨ow, h1, _, _⟩ := w.own
  obtain ⟨o, e2, _, v, rfl, r⟩ := h1 i _ (gv_get e1)
  exact ⟨v, e2, q v H Hf (Ext.refl w.sub) r⟩
def eC (d : D) : En → Option D := fun _ => some d
theorem ev_c {v : V} {d : D} (h : PE X e (tC v)) (hr : ∀ H : Hp, Rp X.K H d v) : EV X e (eC d) := by
  refine ev_of h fun σ H Q ⟨Γ, Hf, d', w, e1, q⟩ => ?_
  cases e1
  exact q v H Hf (Ext.refl w.sub) (hr Hf)
theorem ev_int {i j pos} : EV X (.Constant (.int i) j pos) (eC (.int i)) := ev_c pe_int fun _ => rfl
theorem ev_bl {b j pos} : EV X (.Constant (.bool b) j pos) (eC (.bl b)) := ev_c pe_bl fun _ => rfl
theorem ev_non {j pos} : EV X (.Constant .none j pos) (eC .non) := ev_c pe_non fun _ => rfl
theorem ev_str {x j pos} : EV X (.Constant (.str x) j pos) (eC (.str x)) := ev_c pe_str fun _ => rfl

/-! ### operators by values -/
/-- the operator's reading r follows from the function h on data -/
def R2d (K : Fr) (r : R2) (h : D → D → Option D) : Prop := ∀ d e z, h d e = some z → ∀ H Hf v u Q, Same Hf H → Rp K Hf d v → Rp K Hf e u →
  (∀ w H' Hf', Ext H Hf H' Hf' → Rp K Hf' z w → Q w H') → r v u H Q
def eOp (h : D → D → Option D) (f g : En → Option D) : En → Option D := fun Γ => (f Γ).bind fun d => (g Γ).bind fun e => h d e
theorem tE_bind {K : Fr} {f : En → Option D} {k : D → Option D} {σ : L2.St} {H : Hp} {Q : VK} (h : tE K (fun Γ => (f Γ).bind k) σ H Q) :
    tE K f σ H fun v H1 => ∃ Γ Hf d z, W0 K Γ σ H1 Hf ∧ f Γ = some d ∧ Rp K Hf d v ∧ k d = some z ∧ ∀ w H' Hf', Ext H1 Hf H' Hf' → Rp K Hf' z w → Q w H' := by
  obtain ⟨Γ, Hf, z, w, e1, q⟩ := h
  obtain ⟨d, e2, e3⟩ := Option.bind_eq_some_iff.mp e1
  exact ⟨Γ, Hf, d, w, e2, fun v H1 Hf1 x r => ⟨Γ, Hf1, d, z, w.ext x, e2, r, e3, fun u H2 Hf2 y r2 => q u H2 Hf2 (x.trans y) r2⟩⟩
theorem tOp_of {K : Fr} {f g : En → Option D} {h : D → D → Option D} {r : R2} (hr : R2d K r h) {σ : L2.St} {H : Hp} {Q : VK} (q : tE K (eOp h f g) σ H Q) : tOp r (tE K f) (tE K g) σ H Q := by
  obtain ⟨Γ, Hf, z, w, e1, q⟩ := q
  obtain ⟨d, e2, e3⟩ := Option.bind_eq_some_iff.mp e1
  obtain ⟨e, e4, e5⟩ := Option.bind_eq_some_iff.mp e3
  refine ⟨Γ, Hf, d, w, e2, fun v H1 Hf1 x1 r1 => ?_⟩
  refine ⟨Γ, Hf1, e, w.ext x1, e4, fun u H2 Hf2 x2 r2 => ?_⟩
  exact hr d e z e5 H2 Hf2 v u Q x2.2.2.1 (r1.mono x2.2.1) r2 fun w' H' Hf' x3 r3 => q w' H' Hf' ((x1.trans x2).trans x3) r3
theorem ev_op {op : Operator} {r : R2} {pos : Pos} {f g : En → Option D} {h : D → D → Option D} (ho : OpR X (binaryOp op) r) (hr : R2d X.K r h) (ha : EV X a f) (hb : EV X b g) : EV X (.BinOp a op b pos) (eOp h f g) :=
  ev_of (pe_op ho ha.pe hb.pe) fun _ _ _ q => tOp_of hr q
theorem ev_cmp {op : CmpOp} {r : R2} {pos : Pos} {f g : En → Option D} {h : D → D → Option D} (ho : OpR X (compareOp op) r) (hr : R2d X.K r h) (ha : EV X a f) (hb : EV X b g) (hm : behindInMarks op b = false) : EV X (.Compare a [op] [b] pos) (eOp h f g) :=
  ev_of (pe_cmpR ho ha.pe hb.pe hm) fun _ _ _ q => tOp_of hr q
def isBl : D → Option Bool
  | .bl b => some b
  | _ => none
theorem isBl_eq {d : D} {b : Bool} (h : isBl d = some b) : d = .bl b := by
  cases d <;> first | (cases h; rfl) | cases h
/-- an expression's truth value as a test -/
def tst (f : En → Option D) : En → Option Bool := fun Γ => (f Γ).bind isBl
theorem tE_tst {K : Fr} {f : En → Option D} {σ : L2.St} {H : Hp} {Q : Bool → Hp → Prop} (h : tT K (tst f) σ H Q) : tE K f σ H fun x H' => ∃ k, x = .bl k ∧ Q k H' := by
  obtain ⟨Γ, Hf, b, w, e1, q⟩ := h
  obtain ⟨d, e2, e3⟩ := Option.bind_eq_some_iff.mp e1
  refine ⟨Γ, Hf, d, w, e2, fun v H' Hf' x r => ⟨b, ?_, q H' Hf' x⟩⟩
  rw [isBl_eq e3] at r
  exact r
theorem tv_cmp {op : CmpOp} {r : R2} {pos : Pos} {f g : En → Option D} {h : D → D → Option D} (ho : OpR X (compareOp op) r) (hr : R2d X.K r h) (ha : EV X a f) (hb : EV X b g) (hm : behindInMarks op b = false) : TV X (.Compare a [op] [b] pos) (tst (eOp h f g)) :=
  ⟨PT.imp (pt_cmpR ho ha.pe hb.pe hm) fun _ _ _ q => tOp_of hr (tE_tst q)⟩
/-- an expression that gives a truth value, as a test -/
theorem tv_val {f : En → Option D} (h : EV X e f) (he : ∀ whole, isTrue e X.env whole = (do let v ← whole; standAt e.pos; holding [v] (truthy v)) := by intro _; rfl) : TV X e (tst f) :=
  ⟨PT.imp (pt_val h.pe he) fun _ _ _ q => tE_tst q⟩

/-! ### and, or, not, if as tests and as values -/
def bAnd (f g : En → Option Bool) : En → Option Bool := fun Γ => (f Γ).bind fun c => if c = true then g Γ else some false
def bOr (f g : En → Option Bool) : En → Option Bool := fun Γ => (f Γ).bind fun c => if c = true then some true else g Γ
def bNot (f : En → Option Bool) : En → Option Bool := fun Γ => (f Γ).map (!·)
variable {pos : Pos} {rest : List Expr}
theorem tv_w {f : En → Option Bool} (h : TW X e f) : TV X e f := ⟨h.pw.pt⟩
theorem tw_and1 {f : En → Option Bool} (h : TV X a f) : TW X (.BoolOp .And [a] pos) f := ⟨pw_and1 h.pt⟩
theorem tw_or1 {f : En → Option Bool} (h : TV X a f) : TW X (.BoolOp .Or [a] pos) f := ⟨pw_or1 h.pt⟩
theorem tw_and {f g : En → Option Bool} (ha : TV X a f) (hb : TW X (.BoolOp .And (b :: rest) pos) g) : TW X (.BoolOp .And (a :: b :: rest) pos) (bAnd f g) := by
  refine ⟨PW.imp (pw_and ha.pt hb.pw) fun σ H Q ⟨Γ, Hf, z, w, e1, q⟩ => ?_⟩
  obtain ⟨c, e2, e3⟩ := Option.bind_eq_some_iff.mp e1
  refine ⟨Γ, Hf, c, w, e2, fun H' Hf' x => ?_⟩
  cases c with
  | true =>
    rw [if_pos rfl] at e3 ⊢
    exact ⟨Γ, Hf', z, w.ext x, e3, fun H2 Hf2 y => q H2 Hf2 (x.trans y)⟩
  | false =>
    rw [if_neg Bool.false_ne_true] at e3 ⊢
    cases e3
    exact q H' Hf' x
theorem tw_or {f g : En → Option Bool} (ha : TV X a f) (hb : TW X (.BoolOp .Or (b :: rest) pos) g) : TW X (.BoolOp .Or (a :: b :: rest) pos) (bOr f g) := by
  refine ⟨PW.imp (pw_or ha.pt hb.pw) fun σ H Q ⟨Γ, Hf, z, w, e1, q⟩ => ?_⟩
  obtain ⟨c, e2, e3⟩ := Option.bind_eq_some_iff.mp e1
  refine ⟨Γ, Hf, c, w, e2, fun H' Hf' x => ?_⟩
  cases c with
  | false =>
    rw [if_neg Bool.false_ne_true] at e3 ⊢
    exact ⟨Γ, Hf', z, w.ext x, e3, fun H2 Hf2 y => q H2 Hf2 (x.trans y)⟩
  | true =>
    rw [if_pos rfl] at e3 ⊢
    cases e3
    exact q H' Hf' x
theorem tv_not {f : En → Option Bool} (ha : TV X a f) : TV X (.UnaryOp .Not a pos) (bNot f) := by
  refine ⟨PT.imp (pt_not ha.pt) fun σ H Q ⟨Γ, Hf, z, w, e1, q⟩ => ?_⟩
  obtain ⟨c, e2, e3⟩ := Option.map_eq_some_iff.mp e1
  refine ⟨Γ, Hf, c, w, e2, fun H' Hf' x => ?_⟩
  show Q (!c) H'
  rw [e3]
  exact q H' Hf' x
/-- values: all but the last True or False -/
def eAnd (f g : En → Option D) : En → Option D := fun Γ => (f Γ).bind fun d => (isBl d).bind fun c => if c = true then g Γ else some (.bl false)
def eOr (f g : En → Option D) : En → Option D := fun Γ => (f Γ).bind fun d => (isBl d).bind fun c => if c = true then some (.bl true) else g Γ
def eNot (f : En → Option D) : En → Option D := fun Γ => (f Γ).bind fun d => (isBl d).map fun c => .bl (!c)
theorem ev_one {op : BoolOp} {f : En → Option D} (h : EV X a f) : EV X (.BoolOp op [a] pos) f := ⟨pe_one h.pe⟩
theorem ev_and {f g : En → Option D} (ha : EV X a f) (hb : EV X (.BoolOp .And (b :: rest) pos) g) : EV X (.BoolOp .And (a :: b :: rest) pos) (eAnd f g) := by
  refine ev_of (pe_and ha.pe hb.pe) fun σ H Q ⟨Γ, Hf, z, w, e1, q⟩ => ?_
  obtain ⟨d, e2, e3⟩ := Option.bind_eq_some_iff.mp e1
  obtain ⟨c, e4, e5⟩ := Option.bind_eq_some_iff.mp e3
  have ed := isBl_eq e4
  subst ed
  refine ⟨Γ, Hf, _, w, e2, fun v H' Hf' x r => ⟨c, r, ?_⟩⟩
  cases c with
  | true =>
    rw [if_pos rfl] at e5 ⊢
    exact ⟨Γ, Hf', z, w.ext x, e5, fun u H2 Hf2 y r2 => q u H2 Hf2 (x.trans y) r2⟩
  | false =>
    rw [if_neg Bool.false_ne_true] at e5 ⊢
    cases e5
    exact q _ H' Hf' x rfl
theorem ev_or {f g : En → Option D} (ha : EV X a f) (hb : EV X (.BoolOp .Or (b :: rest) pos) g) : EV X (.BoolOp .Or (a :: b :: rest) pos) (eOr f g) := by
  refine ev_of (pe_or ha.pe hb.pe) fun σ H Q ⟨Γ, Hf, z, w, e1, q⟩ => ?_
  obtain ⟨d, e2, e3⟩ := Option.bind_eq_some_iff.mp e1
  obtain ⟨c, e4, e5⟩ := Option.bind_eq_some_iff.mp e3
  have ed := isBl_eq e4
  subst ed
  refine ⟨Γ, Hf, _, w, e2, fun v H' Hf' x r => ⟨c, r, ?_⟩⟩
  cases c with
  | false =>
    rw [if_neg Bool.false_ne_true] at e5 ⊢
    exact ⟨Γ, Hf', z, w.ext x, e5, fun u H2 Hf2 y r2 => q u H2 Hf2 (x.trans y) r2⟩
  | true =>
    rw [if_pos rfl] at e5 ⊢
    cases e5
    exact q _ H' Hf' x rfl
theorem ev_not {f : En → Option D} (ha : EV X a f) : EV X (.UnaryOp .Not a pos) (eNot f) := by
  refine ev_of (pe_not ha.pe) fun σ H Q ⟨Γ, Hf, z, w, e1, q⟩ => ?_
  obtain ⟨d, e2, e3⟩ := Option.bind_eq_some_iff.mp e1
  obtain ⟨c, e4, e5⟩ := Option.map_eq_some_iff.mp e3
  have ed := isBl_eq e4
  subst ed e5
  exact ⟨Γ, Hf, _, w, e2, fun v H' Hf' x r => ⟨c, r, q _ H' Hf' x rfl⟩⟩
def eIf (c : En → Option Bool) (f g : En → Option D) : En → Option D := fun Γ => (c Γ).bind fun k => if k = true then f Γ else g Γ
theorem ev_if {c : Expr} {fc : En → Option Bool} {f g : En → Option D} (hc : TV X c fc) (ha : EV X a f) (hb : EV X b g) : EV X (.IfExp c a b pos) (eIf fc f g) := by
  refine ev_of (pe_ifExp hc.pt ha.pe hb.pe) fun σ H Q ⟨Γ, Hf, z, w, e1, q⟩ => ?_
  obtain ⟨k, e2, e3⟩ := Option.bind_eq_some_iff.mp e1
  refine ⟨Γ, Hf, k, w, e2, fun H' Hf' x => ?_⟩
  cases k with
  | true =>
    rw [if_pos rfl] at e3 ⊢
    exact ⟨Γ, Hf', z, w.ext x, e3, fun u H2 Hf2 y r2 => q u H2 Hf2 (x.trans y) r2⟩
  | false =>
    rw [if_neg Bool.false_ne_true] at e3 ⊢
    exact ⟨Γ, Hf', z, w.ext x, e3, fun u H2 Hf2 y r2 => q u H2 Hf2 (x.trans y) r2⟩
/-- a < b < c -/
def eChain (h h' : D → D → Option D) (f g k : En → Option D) : En → Option D := fun Γ => (f Γ).bind fun d => (g Γ).bind fun e => (h d e).bind fun z => (isBl z).bind fun c =>
  if c = true then (k Γ).bind fun u => h' e u else some (.bl false)

/-! ### argument lists, displays, calls -/
def aNil : En → Option (List D) := fun _ => some []
def aCons (f : En → Option D) (g : En → Option (List D)) : En → Option (List D) := fun Γ => (f Γ).bind fun d => (g Γ).map fun r => d :: r
theorem av_nil : AV X [] aNil := ⟨PA.imp pa_nil fun σ H Q ⟨Γ, Hf, d, w, e1, q⟩ => by
  cases e1
  exact q [] H Hf (Ext.refl w.sub) rfl⟩
theorem tCons_of {K : Fr} {f : En → Option D} {g : En → Option (List D)} {σ : L2.St} {H : Hp} {Q : List V → Hp → Prop} (h : tA' K (aCons f g) σ H Q) : tCons (tE K f) (tA' K g) σ H Q := by
  obtain ⟨Γ, Hf, z, w, e1, q⟩ := h
  obtain ⟨d, e2, e3⟩ := Option.bind_eq_some_iff.mp e1
  obtain ⟨r, e4, e5⟩ := Option.map_eq_some_iff.mp e3
  subst e5
  refine ⟨Γ, Hf, d, w, e2, fun v H1 Hf1 x1 r1 => ?_⟩
  exact ⟨Γ, Hf1, r, w.ext x1, e4, fun vs H2 Hf2 x2 r2 => q (v :: vs) H2 Hf2 (x1.trans x2) ⟨v, vs, rfl, r1.mono x2.2.1, r2⟩⟩
theorem av_cons {es : List Expr} {f : En → Option D} {g : En → Option (List D)} (ha : EV X e f) (hr : AV X es g) (hs : starEach (e :: es) X.env = (false, eval e X.env) :: starEach es X.env := by rfl) : AV X (e :: es) (aCons f g) :=
  ⟨PA.imp (pa_cons ha.pe hr.pa hs) fun _ _ _ q => tCons_of q⟩
def eTup (g : En → Option (List D)) : En → Option D := fun Γ => (g Γ).bind fun ds => if ds.length ≤ 1000 then some (.tup ds) else none
def eLst (g : En → Option (List D)) : En → Option D := fun Γ => (g Γ).bind fun ds => if ds.length ≤ 1000 then some (.lst ds) else none
theorem line_of {n : Nat} (h : n ≤ 1000) : n ≤ sizeLine := Nat.le_of_lt (small1000 h)
theorem ev_tup {es : List Expr} {x1 : Nat} {g : En → Option (List D)} (h : AV X es g) : EV X (.Tuple es x1 pos) (eTup g) := by
  refine ev_of (pe_tup h.pa) fun σ H Q ⟨Γ, Hf, z, w, e1, q⟩ => ?_
  obtain ⟨ds, e2, e3⟩ := Option.bind_eq_some_iff.mp e1
  split at e3
  · cases e3
    rename_i hl
    refine ⟨Γ, Hf, ds, w, e2, fun vs H1 Hf1 x r => ⟨?_, fun p hp => ?_⟩⟩
    · rw [r.length]; exact line_of hl
    · have x2 : Ext H1 Hf1 (upd H1 p (.tup vs)) (upd Hf1 p (.tup vs)) := Ext.new x.2.2.1 hp
      exact q _ _ _ (x.trans x2) ⟨p, vs, rfl, upd_same, r.mono x2.2.1⟩
  · cases e3
theorem ev_lst {es : List Expr} {g : En → Option (List D)} (h : AV X es g) : EV X (.List es pos) (eLst g) := by
  refine ev_of (pe_lst h.pa) fun σ H Q ⟨Γ, Hf, z, w, e1, q⟩ => ?_
  obtain ⟨ds, e2, e3⟩ := Option.bind_eq_some_iff.mp e1
  split at e3
  · cases e3
    rename_i hl
    refine ⟨Γ, Hf, ds, w, e2, fun vs H1 Hf1 x r => ⟨?_, fun p hp => ?_⟩⟩
    · rw [r.length]; exact line_of hl
    · have x2 : Ext H1 Hf1 (upd H1 p (.lst vs)) (upd Hf1 p (.lst vs)) := Ext.new x.2.2.1 hp
      exact q _ _ _ (x.trans x2) ⟨p, vs, rfl, upd_same, r.mono x2.2.1⟩
  · cases e3
/-- a built-in's call by its reading -/
def RLd (K : Fr) (r : List V → Hp → VK → Prop) (h : List D → Option D) : Prop := ∀ ds z, h ds = some z → ∀ H Hf vs Q, Same Hf H → RpL K Hf ds vs →
  (∀ w H' Hf', Ext H Hf H' Hf' → Rp K Hf' z w → Q w H') → r vs H Q
def eCB (h : List D → Option D) (g : En → Option (List D)) : En → Option D := fun Γ => (g Γ).bind h
theorem tCB_of {K : Fr} {g : En → Option (List D)} {h : List D → Option D} {r : List V → Hp → VK → Prop} (hr : RLd K r h) {σ : L2.St} {H : Hp} {Q : VK} (q : tE K (eCB h g) σ H Q) : tCB r (tA' K g) σ H Q := by
  obtain ⟨Γ, Hf, z, w, e1, q⟩ := q
  obtain ⟨ds, e2, e3⟩ := Option.bind_eq_some_iff.mp e1
  refine ⟨Γ, Hf, ds, w, e2, fun vs H1 Hf1 x r1 => ?_⟩
  exact hr ds z e3 H1 Hf1 vs Q x.2.2.1 r1 fun w' H' Hf' x3 r3 => q w' H' Hf' (x.trans x3) r3
theorem ev_callB {id : String} {x : Str} {p : Pos} {es : List Expr} {r : List V → Hp → VK → Prop} {h : List D → Option D} {g : En → Option (List D)} (hc : CallR X (.builtin id) r) (hr : RLd X.K r h) (hg : Gl X x) (hm : X.mg x = none) (hv : bootBuiltins x = some (.builtin id)) (ha : AV X (e :: es) g) (hn : x ≠ "__name__" := by decide) (hdb : (x == ("__debug__" : Str)) = false := by decide)
    (he : starEach (e :: es) X.env = (false, eval e X.env) :: starEach es X.env := by rfl) (hpl : (backTo pos (starEach es X.env)).any (·.1) = false := by rfl) : EV X (.Call (.Name x p) (e :: es) [] pos) (eCB h g) :=
  ev_of (pe_callB hc hg hm hv ha.pa hn hdb he hpl) fun _ _ _ q => tCB_of hr q
theorem ev_callTy {T : String} {x : Str} {p : Pos} {es : List Expr} {r : List V → Hp → VK → Prop} {h : List D → Option D} {g : En → Option (List D)} (hc : CallR X (.type T) r) (hr : RLd X.K r h) (hg : Gl X x) (hm : X.mg x = none) (hv : bootBuiltins x = some (.type T)) (ha : AV X (e :: es) g) (hn : x ≠ "__name__" := by decide) (hdb : (x == ("__debug__" : Str)) = false := by decide)
    (he : starEach (e :: es) X.env = (false, eval e X.env) :: starEach es X.env := by rfl) (hpl : (backTo pos (starEach es X.env)).any (·.1) = false := by rfl) : EV X (.Call (.Name x p) (e :: es) [] pos) (eCB h g) :=
  ev_of (pe_callTy hc hg hm hv ha.pa hn hdb he hpl) fun _ _ _ q => tCB_of hr q

/-! ### defs -/
inductive Res where
  | ok (d : D) | exc (c : Str) | bad
def Res.get? : Res → Option D
  | .ok d => some d
  | _ => none
/-- a def's promise, by its function on data; n parameters -/
def spD (K : Fr) (ca : Str → Addr) (ex : Bool) (n : Nat) (g : List D → Res) : Sp := fun vs H Q E => vs.length = n ∧ ∃ Hf ds, Same Hf H ∧ RpL K Hf ds vs ∧
  match g ds with
  | .ok d => ∀ v H' Hf', Ext H Hf H' Hf' → Rp K Hf' d v → Q v H'
  | .exc c => ex = true ∧ ∀ H' Hf', Ext H Hf H' Hf' → E (.ref (ca c)) none H'
  | .bad => False
def eCall (g : List D → Res) (a : En → Option (List D)) : En → Option D := fun Γ => (a Γ).bind fun ds => (g ds).get?
theorem tCall_of {K : Fr} {ca : Str → Addr} {ex : Bool} {n : Nat} {g : List D → Res} {fa : En → Option (List D)} {E : XK} {σ : L2.St} {H : Hp} {Q : VK} (hn : ∀ Γ ds, fa Γ = some ds → ds.length = n) (q : tE K (eCall g fa) σ H Q) : tCall (spD K ca ex n g) [] E (tA' K fa) σ H Q := by
  obtain ⟨Γ, Hf, z, w, e1, q⟩ := q
  obtain ⟨ds, e2, e3⟩ := Option.bind_eq_some_iff.mp e1
  refine ⟨Γ, Hf, ds, w, e2, fun vs H1 Hf1 x r1 => ?_⟩
  refine ⟨by rw [List.append_nil, r1.length]; exact hn _ _ e2, Hf1, ds, x.2.2.1, by rw [List.append_nil]; exact r1, ?_⟩
  cases hg : g ds with
  | ok d =>
    rw [hg] at e3
    cases e3
    exact fun v H' Hf' y r => q v H' Hf' (x.trans y) r
  | exc c => rw [hg] at e3; cases e3
  | bad => rw [hg] at e3; cases e3
theorem aNil_len : ∀ Γ ds, aNil Γ = some ds → ds.length = 0 := fun _ _ h => by cases h; rfl
theorem aCons_len {f : En → Option D} {g : En → Option (List D)} {n : Nat} (h : ∀ Γ ds, g Γ = some ds → ds.length = n) : ∀ Γ ds, aCons f g Γ = some ds → ds.length = n + 1 := fun Γ ds q => by
  obtain ⟨d, e2, e3⟩ := Option.bind_eq_some_iff.mp q
  obtain ⟨r, e4, e5⟩ := Option.map_eq_some_iff.mp e3
  subst e5
  rw [List.length_cons, h Γ r e4]
theorem ev_call {CX : CXT} {ex : Bool} {k n : Nat} {f : Addr} {fd : FuncData} {ps : List Str} {ca : Str → Addr} {g : List D → Res} {E : XK} {x : Str} {p : Pos} {es : List Expr} {fa : En → Option (List D)} (F : FnOk X.prog X.w X.K X.mg X.base CX k f fd ps (spD X.K ca ex n g)) (hr : Room k X.A) (hg : Gl X x) (hm : X.mg x = some (.ref f)) (hk : PySem.W.keepIn X.K (.ref f) = true) (hb : Binds X.K fd ps []) (hx : Passes CX X E)
    (ha : AV X (e :: es) fa) (hn : ∀ Γ ds, fa Γ = some ds → ds.length = n) (hdb : (x == ("__debug__" : Str)) = false := by decide) (he : starEach (e :: es) X.env = (false, eval e X.env) :: starEach es X.env := by rfl) (hpl : (backTo pos (starEach es X.env)).any (·.1) = false := by rfl) :
    EV X (.Call (.Name x p) (e :: es) [] pos) (eCall g fa) :=
  ev_of (pe_call F hr hg hm hk hb .nil hx ha.pa hdb he hpl) fun _ _ _ q => tCall_of hn q
end
end DL

/-! DL2: statements, loops, comprehensions, defs. -/
namespace DL
open PySem PySem.Spec PyProof.Rows L2

inductive Out where
  | nx (Γ : En) | ret (d : D) (Γ : En) | rto (s : Sl) | brk (Γ : En) | ct (Γ : En) | exc (c : Str) | bad
abbrev XQ := Str → L2.St → Hp → Prop
abbrev xq0 : XQ := fun _ _ _ => False
def Post (K : Fr) (H0 Hf0 : Hp) (xq : XQ) (Dn : Ends) : Out → Prop
  | .nx Γ => ∀ σ H Hf, Wf K H0 Hf0 Γ σ H Hf → Dn.nx σ H
  | .ret d Γ => ∀ v σ H Hf, Wf K H0 Hf0 Γ σ H Hf → Rp K Hf d v → Dn.rt v H
  | .rto s => ∀ v O Γ σ H Hf, Wf K H0 Hf0 Γ σ H Hf → (∀ a ∈ O, H0 a = none ∧ Hf a = none) → SlOk K Hf H s (some v) O → Dn.rt v H
  | .brk Γ => ∀ σ H Hf, Wf K H0 Hf0 Γ σ H Hf → Dn.bk σ H
  | .ct Γ => ∀ σ H Hf, Wf K H0 Hf0 Γ σ H Hf → Dn.ct σ H
  | .exc c => ∀ Γ σ H Hf, Wf K H0 Hf0 Γ σ H Hf → xq c σ H
  | .bad => False
def tS (K : Fr) (xq : XQ) (s : En → Out) : TS := fun Dn σ H => ∃ H0 Hf0 Γ Hf, Wf K H0 Hf0 Γ σ H Hf ∧ Post K H0 Hf0 xq Dn (s Γ)
structure SV (X : Cx) (xq : XQ) (st : Stmt) (s : En → Out) : Prop where
  ps : PS X st (tS X.K xq s)
structure SVs (X : Cx) (xq : XQ) (st : List Stmt) (s : En → Out) : Prop where
  ps : PSs X st (tS X.K xq s)
/-- a raising call as an expression -/
def tR (K : Fr) (xq : XQ) (g : En → Option Res) : TE := fun σ H Q => ∃ Γ Hf r, W0 K Γ σ H Hf ∧ g Γ = some r ∧ match r with
  | .ok d => ∀ v H' Hf', Ext H Hf H' Hf' → Rp K Hf' d v → Q v H'
  | .exc c => ∀ H' Hf', Ext H Hf H' Hf' → xq c σ H'
  | .bad => False
structure RV (X : Cx) (xq : XQ) (e : Expr) (g : En → Option Res) : Prop where
  pe : PE X e (tR X.K xq g)
section
variable {X : Cx} {xq : XQ} {st : Stmt} {rest : List Stmt} {e : Expr} {pos : Pos}

def sNil : En → Out := .nx
def sSeq (s t : En → Out) : En → Out := fun Γ => match s Γ with
  | .nx Γ' => t Γ'
  | o => o
theorem svs_nil : SVs X xq [] sNil := ⟨PSs.imp pss_nil fun D σ H ⟨H0, Hf0, Γ, Hf, w, q⟩ => q σ H Hf w⟩
theorem svs_cons {s t : En → Out} (h1 : SV X xq st s) (h2 : SVs X xq rest t) : SVs X xq (st :: rest) (sSeq s t) := by
  refine ⟨PSs.imp (pss_cons h1.ps h2.ps) fun D σ H ⟨H0, Hf0, Γ, Hf, w, q⟩ => ⟨H0, Hf0, Γ, Hf, w, ?_⟩⟩
  unfold sSeq at q
  cases e : s Γ with
  | nx Γ' => rw [e] at q; exact fun σ' H' Hf' w' => ⟨H0, Hf0, Γ', Hf', w', q⟩
  | ret d Γ' => rw [e] at q; exact q
  | rto s => rw [e] at q; exact q
  | brk Γ' => rw [e] at q; exact q
  | ct Γ' => rw [e] at q; exact q
  | exc c => rw [e] at q; exact q
  | bad => rw [e] at q; exact q.elim
theorem svs_one {s : En → Out} (h1 : SV X xq st s) : SVs X xq [st] s := ⟨pss_one h1.ps⟩
def sPass : En → Out := .nx
theorem sv_pass : SV X xq (.Pass pos) sPass := ⟨PS.imp ps_pass fun D σ H ⟨H0, Hf0, Γ, Hf, w, q⟩ => q σ H Hf w⟩

/-- the expression's reading from a statement's state -/
theorem tE_st {K : Fr} {f : En → Option D} {H0 Hf0 : Hp} {Γ : En} {σ : L2.St} {H Hf : Hp} {Q : VK} {d : D} (w : Wf K H0 Hf0 Γ σ H Hf) (h : f Γ = some d)
    (q : ∀ v H' Hf', Wf K H0 Hf0 Γ σ H' Hf' → Rp K Hf' d v → Q v H') : tE K f σ H Q :=
  ⟨Γ, Hf, d, w.w0, h, fun v H' Hf' x r => q v H' Hf' (w.ext x) r⟩
theorem tA_st {K : Fr} {f : En → Option (List D)} {H0 Hf0 : Hp} {Γ : En} {σ : L2.St} {H Hf : Hp} {Q : List V → Hp → Prop} {d : List D} (w : Wf K H0 Hf0 Γ σ H Hf) (h : f Γ = some d)
    (q : ∀ v H' Hf', Wf K H0 Hf0 Γ σ H' Hf' → RpL K Hf' d v → Q v H') : tA' K f σ H Q :=
  ⟨Γ, Hf, d, w.w0, h, fun v H' Hf' x r => q v H' Hf' (w.ext x) r⟩
theorem tT_st {K : Fr} {f : En → Option Bool} {H0 Hf0 : Hp} {Γ : En} {σ : L2.St} {H Hf : Hp} {Q : Bool → Hp → Prop} {d : Bool} (w : Wf K H0 Hf0 Γ σ H Hf) (h : f Γ = some d)
    (q : ∀ H' Hf', Wf K H0 Hf0 Γ σ H' Hf' → Q d H') : tT K f σ H Q :=
  ⟨Γ, Hf, d, w.w0, h, fun H' Hf' x => q H' Hf' (w.ext x)⟩

def sDrop (f : En → Option D) : En → Out := fun Γ => match f Γ with
  | some _ => .nx Γ
  | none => .bad
theorem sv_expr {f : En → Option D} (he : EV X e f) (hs : swapsWith e none pos.line X.env = pure false := by rfl) : SV X xq (.Expr e pos) (sDrop f) := by
  refine ⟨PS.imp (ps_expr he.pe hs) fun D σ H ⟨H0, Hf0, Γ, Hf, w, q⟩ => ?_⟩
  unfold sDrop at q
  cases e1 : f Γ with
  | none => rw [e1] at q; exact q.elim
  | some d => rw [e1] at q; exact tE_st w e1 fun v H' Hf' w' _ => q σ H' Hf' w'
def sRet (f : En → Option D) : En → Out := fun Γ => match f Γ with
  | some d => .ret d Γ
  | none => .bad
theorem sv_ret {f : En → Option D} (he : EV X e f) : SV X xq (.Return (some e) pos) (sRet f) := by
  refine ⟨PS.imp (ps_ret he.pe) fun D σ H ⟨H0, Hf0, Γ, Hf, w, q⟩ => ?_⟩
  unfold sRet at q
  cases e1 : f Γ with
  | none => rw [e1] at q; exact q.elim
  | some d => rw [e1] at q; exact tE_st w e1 fun v H' Hf' w' r => q v σ H' Hf' w' r
def sRetN : En → Out := fun Γ => .ret .non Γ
theorem sv_retN : SV X xq (.Return none pos) sRetN := ⟨PS.imp ps_retN fun D σ H ⟨H0, Hf0, Γ, Hf, w, q⟩ => q .non σ H Hf w rfl⟩
def sIf (c : En → Option Bool) (s t : En → Out) : En → Out := fun Γ => match c Γ with
  | some true => s Γ
  | some false => t Γ
  | none => .bad
theorem sv_if {c : Expr} {fc : En → Option Bool} {ss ts : List Stmt} {s t : En → Out} (hc : TV X c fc) (ha : SVs X xq ss s) (hb : SVs X xq ts t) : SV X xq (.If c ss ts pos) (sIf fc s t) := by
  refine ⟨PS.imp (ps_if hc.pt ha.ps hb.ps) fun D σ H ⟨H0, Hf0, Γ, Hf, w, q⟩ => ?_⟩
  unfold sIf at q
  cases e1 : fc Γ with
  | none => rw [e1] at q; exact q.elim
  | some b =>
    rw [e1] at q
    refine tT_st w e1 fun H' Hf' w' => ?_
    cases b with
    | true => rw [if_pos rfl]; exact ⟨H0, Hf0, Γ, Hf', w', q⟩
    | false => rw [if_neg Bool.false_ne_true]; exact ⟨H0, Hf0, Γ, Hf', w', q⟩
def sBrk : En → Out := .brk
def sCt : En → Out := .ct
theorem sv_brk : SV X xq (.Break pos) sBrk := ⟨PS.imp ps_break fun D σ H ⟨H0, Hf0, Γ, Hf, w, q⟩ => q σ H Hf w⟩
theorem sv_ct : SV X xq (.Continue pos) sCt := ⟨PS.imp ps_continue fun D σ H ⟨H0, Hf0, Γ, Hf, w, q⟩ => q σ H Hf w⟩
/-- a raise in a def that lets nothing out: never come to -/
def sExc (c : Str) : En → Out := fun _ => .exc c
theorem sv_exc0 {c : Str} : SV X xq0 st (sExc c) := ⟨PS.imp ps_never fun D σ H ⟨H0, Hf0, Γ, Hf, w, q⟩ => q Γ σ H Hf w⟩

/-! ### targets -/
abbrev Bd := D → En → Option En
def But (ts : List Nat) (σ σ' : L2.St) : Prop := σ'.length = σ.length ∧ ∀ j, j ∉ ts → σ'[j]? = σ[j]?
def tG (K : Fr) (ts : List Nat) (b : Bd) : TG := fun v σ H Q => ∃ H0 Hf0 Γ Hf d Γ', Wf K H0 Hf0 Γ σ H Hf ∧ Rp K Hf d v ∧ b d Γ = some Γ' ∧ ∀ σ', But ts σ σ' → Wf K H0 Hf0 Γ' σ' H Hf → Q σ' H
structure GV (X : Cx) (tg : Expr) (ts : List Nat) (b : Bd) : Prop where
  pg : PG X tg (tG X.K ts b)
theorem But.one {σ : L2.St} {i : Nat} {o : Option V} : But [i] σ (σ.set i o) := ⟨by simp, fun j hj => List.getElem?_set_ne (fun e => hj (by simp [e]))⟩
theorem But.two {σ : L2.St} {i j : Nat} {o u : Option V} : But [i, j] σ ((σ.set i o).set j u) := ⟨by simp, fun k hk => by
  rw [List.getElem?_set_ne (fun e => hk (by simp [e])), List.getElem?_set_ne (fun e => hk (by simp [e]))]⟩
def bN (i : Nat) : Bd := fun d Γ => some (Γ.set i (.sh d))
theorem gv_name {i : Nat} {tg : Expr} (h : PG X tg (gName i)) : GV X tg [i] (bN i) :=
  ⟨PG.imp h fun v σ H Q ⟨H0, Hf0, Γ, Hf, d, Γ', w, r, e, q⟩ => by cases e; exact q _ .one (w.setSh r)⟩
def b2 (i j : Nat) : Bd := fun d Γ => match d with
  | .tup [x, y] => some ((Γ.set i (.sh x)).set j (.sh y))
  | _ => none
theorem gv_2 {i j : Nat} {tg : Expr} (h : PG X tg (gTup X.K 2 (gCons (gName i) (gCons (gName j) gNil)))) : GV X tg [i, j] (b2 i j) := by
  refine ⟨PG.imp h fun v σ H Q ⟨H0, Hf0, Γ, Hf, d, Γ', w, r, e, q⟩ => ?_⟩
  unfold b2 at e
  split at e
  · rename_i x y
    cases e
    obtain ⟨a, vs, rfl, ha, v1, r1, rfl, q1, v2, r2, rfl, q2, q3⟩ := r
    cases (show r2 = [] from q3)
    refine ⟨a, [v1, v2], rfl, SqT.of (w.sub _ _ ha), rfl, v1, [v2], rfl, v2, [], rfl, rfl, ?_⟩
    exact q _ .two ((w.setSh q1).setSh q2)
  · cases e

/-- target = value -/
def sAsg (f : En → Option D) (b : Bd) : En → Out := fun Γ => match f Γ with
  | some d => (match b d Γ with
    | some Γ' => .nx Γ'
    | none => .bad)
  | none => .bad
def sSet (i : Nat) (f : En → Option D) : En → Out := sAsg f (bN i)
theorem sAsg_of {K : Fr} {ts : List Nat} {f : En → Option D} {b : Bd} {D' : Ends} {σ : L2.St} {H : Hp} (h : tS K xq (sAsg f b) D' σ H) : tE K f σ H fun x H1 => tG K ts b x σ H1 D'.nx := by
  obtain ⟨H0, Hf0, Γ, Hf, w, q⟩ := h
  unfold sAsg at q
  cases e1 : f Γ with
  | none => rw [e1] at q; exact q.elim
  | some d =>
    rw [e1] at q
    cases e2 : b d Γ with
    | none => simp only [e2] at q; exact q.elim
    | some Γ' =>
      simp only [e2] at q
      exact tE_st w e1 fun v H' Hf' w' r => ⟨H0, Hf0, Γ, Hf', d, Γ', w', r, e2, fun σ' _ w2 => q σ' H' Hf' w2⟩
theorem sv_asg {tg : Expr} {ts : List Nat} {f : En → Option D} {b : Bd} (he : EV X e f) (hg : GV X tg ts b) (hs : swapsWithSole [tg] e pos.line X.env = pure false := by rfl) (hw : swappedStores [tg] e X.env = pure none := by rfl)
    (h1 : (assignEach [tg] X.env).map (·.2) = [assign tg X.env] := by rfl) : SV X xq (.Assign [tg] e pos) (sAsg f b) :=
  ⟨PS.imp (ps_asg he.pe hg.pg hs hw h1) fun _ _ _ q => sAsg_of q⟩
theorem sv_set {i : Nat} {x : Str} {f : En → Option D} {pos' : Pos} (hN : X.N.Nodup) (hi : X.N[i]? = some x) (hx : Loc X.env.scope x) (he : EV X e f) (hs : swapsWith e (some (.Name x pos')) pos.line X.env = pure false := by rfl) (hf : X.fn x = true ∨ X.env.scope.names.lookup x = some .local := by first | exact .inl rfl | exact .inr rfl | assumption) :
    SV X xq (.Assign [.Name x pos'] e pos) (sSet i f) :=
  ⟨PS.imp (ps_set hN hi hx he.pe hs hf) fun D σ H q => by
    obtain ⟨Γ, Hf, d, w, e1, q2⟩ := sAsg_of (ts := [i]) q
    exact ⟨Γ, Hf, d, w, e1, fun v H' Hf' x r => by
      obtain ⟨H0, Hf0, Γ2, Hf2, d2, Γ3, w2, r2, e3, q3⟩ := q2 v H' Hf' x r
      cases e3
      exact q3 _ .one (w2.setSh r2)⟩⟩

/-! ### raising calls -/
def toR (f : En → Option D) : En → Option Res := fun Γ => (f Γ).map .ok
def rCall (g : List D → Res) (a : En → Option (List D)) : En → Option Res := fun Γ => (a Γ).map g
def sRExpr (g : En → Option Res) : En → Out := fun Γ => match g Γ with
  | some (.ok _) => .nx Γ
  | some (.exc c) => .exc c
  | _ => .bad
def sRAsg (g : En → Option Res) (i : Nat) : En → Out := fun Γ => match g Γ with
  | some (.ok d) => .nx (Γ.set i (.sh d))
  | some (.exc c) => .exc c
  | _ => .bad
def sRRet (g : En → Option Res) : En → Out := fun Γ => match g Γ with
  | some (.ok d) => .ret d Γ
  | some (.exc c) => .exc c
  | _ => .bad
/-- if not f(..): .. -/
def sRIfN (g : En → Option Res) (s t : En → Out) : En → Out := fun Γ => match g Γ with
  | some (.ok (.bl true)) => t Γ
  | some (.ok (.bl false)) => s Γ
  | some (.exc c) => .exc c
  | _ => .bad
theorem tR_st {K : Fr} {g : En → Option Res} {H0 Hf0 : Hp} {Γ : En} {σ : L2.St} {H Hf : Hp} {Q : VK} {r : Res} (w : Wf K H0 Hf0 Γ σ H Hf) (h : g Γ = some r)
    (q1 : ∀ d, r = .ok d → ∀ v H' Hf', Wf K H0 Hf0 Γ σ H' Hf' → Rp K Hf' d v → Q v H') (q2 : ∀ c, r = .exc c → ∀ H' Hf', Wf K H0 Hf0 Γ σ H' Hf' → xq c σ H') (q3 : r ≠ .bad) : tR K xq g σ H Q := by
  refine ⟨Γ, Hf, r, w.w0, h, ?_⟩
  cases r with
  | ok d => exact fun v H' Hf' x r => q1 d rfl v H' Hf' (w.ext x) r
  | exc c => exact fun H' Hf' x => q2 c rfl H' Hf' (w.ext x)
  | bad => exact absurd rfl q3
theorem sv_rexpr {g : En → Option Res} (he : RV X xq e g) (hs : swapsWith e none pos.line X.env = pure false := by rfl) : SV X xq (.Expr e pos) (sRExpr g) := by
  refine ⟨PS.imp (ps_expr he.pe hs) fun D σ H ⟨H0, Hf0, Γ, Hf, w, q⟩ => ?_⟩
  unfold sRExpr at q
  cases e1 : g Γ with
  | none => rw [e1] at q; exact q.elim
  | some r =>
    rw [e1] at q
    refine tR_st w e1 (fun d h v H' Hf' w' _ => ?_) (fun c h H' Hf' w' => ?_) (fun h => ?_)
    · subst h; exact q σ H' Hf' w'
    · subst h; exact q Γ σ H' Hf' w'
    · subst h; exact q
theorem sv_rset {i : Nat} {x : Str} {g : En → Option Res} {pos' : Pos} (hN : X.N.Nodup) (hi : X.N[i]? = some x) (hx : Loc X.env.scope x) (he : RV X xq e g) (hs : swapsWith e (some (.Name x pos')) pos.line X.env = pure false := by rfl) (hf : X.fn x = true ∨ X.env.scope.names.lookup x = some .local := by first | exact .inl rfl | exact .inr rfl | assumption) :
    SV X xq (.Assign [.Name x pos'] e pos) (sRAsg g i) := by
  refine ⟨PS.imp (ps_set hN hi hx he.pe hs hf) fun D σ H ⟨H0, Hf0, Γ, Hf, w, q⟩ => ?_⟩
  unfold sRAsg at q
  cases e1 : g Γ with
  | none => rw [e1] at q; exact q.elim
  | some r =>
    rw [e1] at q
    refine tR_st w e1 (fun d h v H' Hf' w' r' => ?_) (fun c h H' Hf' w' => ?_) (fun h => ?_)
    · subst h; exact q _ H' Hf' (w'.setSh r')
    · subst h; exact q Γ σ H' Hf' w'
    · subst h; exact q
theorem sv_rret {g : En → Option Res} (he : RV X xq e g) : SV X xq (.Return (some e) pos) (sRRet g) := by
  refine ⟨PS.imp (ps_ret he.pe) fun D σ H ⟨H0, Hf0, Γ, Hf, w, q⟩ => ?_⟩
  unfold sRRet at q
  cases e1 : g Γ with
  | none => rw [e1] at q; exact q.elim
  | some r =>
    rw [e1] at q
    refine tR_st w e1 (fun d h v H' Hf' w' r' => ?_) (fun c h H' Hf' w' => ?_) (fun h => ?_)
    · subst h; exact q v σ H' Hf' w' r'
    · subst h; exact q Γ σ H' Hf' w'
    · subst h; exact q
theorem sv_rifn {g : En → Option Res} {ss ts : List Stmt} {s t : En → Out} {np : Pos} (he : RV X xq e g) (ha : SVs X xq ss s) (hb : SVs X xq ts t)
    (hw : ∀ whole, isTrue e X.env whole = (do let v ← whole; standAt e.pos; holding [v] (truthy v)) := by intro _; rfl) : SV X xq (.If (.UnaryOp .Not e np) ss ts pos) (sRIfN g s t) := by
  refine ⟨PS.imp (ps_if (pt_not (pt_val he.pe hw)) ha.ps hb.ps) fun D σ H ⟨H0, Hf0, Γ, Hf, w, q⟩ => ?_⟩
  unfold sRIfN at q
  cases e1 : g Γ with
  | none => rw [e1] at q; exact q.elim
  | some r =>
    rw [e1] at q
    refine tR_st w e1 (fun d h v H' Hf' w' r' => ?_) (fun c h H' Hf' w' => ?_) (fun h => ?_)
    · subst h
      cases d with
      | bl b =>
        cases (show v = .bl b from r')
        refine ⟨b, rfl, ?_⟩
        cases b with
        | true =>
          show if (!true) = true then _ else _
          rw [if_neg (by decide)]
          exact ⟨H0, Hf0, Γ, Hf', w', q⟩
        | false =>
          show if (!false) = true then _ else _
          rw [if_pos (by decide)]
          exact ⟨H0, Hf0, Γ, Hf', w', q⟩
      | _ => exact q.elim
    · subst h; exact q Γ σ H' Hf' w'
    · subst h; exact q
theorem rv_of {f : En → Option D} (h : EV X e f) : RV X xq e (toR f) := ⟨PE.imp h.pe fun σ H Q ⟨Γ, Hf, r, w, e1, q⟩ => by
  obtain ⟨d, e2, e3⟩ := Option.map_eq_some_iff.mp e1
  subst e3
  exact ⟨Γ, Hf, d, w, e2, q⟩⟩
end

/-! ### what a loop walks -/
def ItOk (K : Fr) (J : It) (Hf : Hp) (ds : List D) : Prop := ∀ i H, Same Hf H → (i < ds.length → J.go i H) ∧ (i = ds.length → J.stop i H) ∧
  ∀ x H', J.yld i H x H' → H' = H ∧ ∀ d, ds[i]? = some d → Rp K Hf d x
def tI (K : Fr) (f : En → Option (List D)) : TI := fun σ H R => ∃ Γ Hf ds, W0 K Γ σ H Hf ∧ f Γ = some ds ∧ ∀ J H' Hf', Ext H Hf H' Hf' → ItOk K J Hf' ds → R J H'
structure IV (X : Cx) (tg it : Expr) (f : En → Option (List D)) : Prop where
  pi : PI X tg it (tI X.K f)
def isLst : D → Option (List D)
  | .lst xs => some xs
  | .scr ns => some (ns.map D.int)
  | _ => none
def isTup : D → Option (List D)
  | .tup xs => some xs
  | _ => none
def iL (f : En → Option D) : En → Option (List D) := fun Γ => (f Γ).bind isLst
def iT (f : En → Option D) : En → Option (List D) := fun Γ => (f Γ).bind isTup
theorem seq_inj {K : Fr} {H : Hp} {a : Addr} {xs ys : List V} (h : H a = some (.lst xs)) (n : K.lookup a = none) (h' : SqL K H a ys) : xs = ys := by
  rcases h' with (h' | ⟨o, h'⟩) | ⟨o, its, k, e, _⟩
  · rw [h] at h'; cases h'; rfl
  · rw [h] at h'; cases h'
  · rw [n] at e; cases e
section
variable {X : Cx} {e tg : Expr} {pos : Pos}
/-- a list is walked -/
theorem iv_list {f : En → Option D} (h : EV X e f) : IV X tg e (iL f) := by
  refine ⟨PI.imp (pi_list h.pe) fun σ H R ⟨Γ, Hf, ds, w, e1, q⟩ => ?_⟩
  obtain ⟨d, e2, e3⟩ := Option.bind_eq_some_iff.mp e1
  refine ⟨Γ, Hf, d, w, e2, fun v H' Hf' x r => ?_⟩
  cases d with
  | lst xs =>
    cases e3
    obtain ⟨a, vs, rfl, ha, rl⟩ := r
    refine ⟨a, rfl, ⟨vs, SqL.of (x.2.2.1 _ _ ha)⟩, q _ H' Hf' x fun i H2 s2 => ⟨fun hi => ?_, fun hi => ?_, fun u H3 hy => ?_⟩⟩
    · obtain ⟨u, hu, _⟩ := rl.get (List.getElem?_eq_getElem hi)
      exact ⟨vs, u, SqL.of (s2 _ _ ha), hu⟩
    · exact ⟨vs, SqL.of (s2 _ _ ha), by rw [rl.length]; omega⟩
    · obtain ⟨rfl, hy⟩ := hy
      refine ⟨rfl, fun d hd => ?_⟩
      obtain ⟨u', hu, ru⟩ := rl.get hd
      have := hy vs (SqL.of (s2 _ _ ha))
      rw [hu] at this; cases this
      exact ru
  | scr ns =>
    cases e3
    obtain ⟨a, rfl, ha⟩ := r
    refine ⟨a, rfl, ⟨_, x.2.2.1.seq ha⟩, q _ H' Hf' x fun i H2 s2 => ⟨fun hi => ?_, fun hi => ?_, fun u H3 hy => ?_⟩⟩
    · rw [List.length_map] at hi
      exact ⟨_, .int ns[i], s2.seq ha, by simp [hi]⟩
    · exact ⟨_, s2.seq ha, by rw [List.length_map] at hi ⊢; omega⟩
    · obtain ⟨rfl, hy⟩ := hy
      refine ⟨rfl, fun d hd => ?_⟩
      have := hy _ (s2.seq ha)
      rw [List.getElem?_map] at this hd
      obtain ⟨n, hn, rfl⟩ := Option.map_eq_some_iff.mp hd
      rw [hn] at this
      cases this
      rfl
  | _ => cases e3
theorem iv_tup {f : En → Option D} (h : EV X e f) : IV X tg e (iT f) := by
  refine ⟨PI.imp (pi_tup h.pe) fun σ H R ⟨Γ, Hf, ds, w, e1, q⟩ => ?_⟩
  obtain ⟨d, e2, e3⟩ := Option.bind_eq_some_iff.mp e1
  refine ⟨Γ, Hf, d, w, e2, fun v H' Hf' x r => ?_⟩
  cases d with
  | tup xs =>
    cases e3
    obtain ⟨a, vs, rfl, ha, rl⟩ := r
    refine ⟨a, rfl, ⟨vs, SqT.of (x.2.2.1 _ _ ha)⟩, q _ H' Hf' x fun i H2 s2 => ⟨fun hi => ?_, fun hi => ?_, fun u H3 hy => ?_⟩⟩
    · obtain ⟨u, hu, _⟩ := rl.get (List.getElem?_eq_getElem hi)
      exact ⟨vs, u, SqT.of (s2 _ _ ha), hu⟩
    · exact ⟨vs, SqT.of (s2 _ _ ha), by rw [rl.length]; omega⟩
    · obtain ⟨rfl, hy⟩ := hy
      refine ⟨rfl, fun d hd => ?_⟩
      obtain ⟨u', hu, ru⟩ := rl.get hd
      have := hy vs (SqT.of (s2 _ _ ha))
      rw [hu] at this; cases this
      exact ru
  | _ => cases e3
def rng (lo : Int) (n : Nat) : List D := (List.range n).map fun k => D.int (lo + (k : Nat))
theorem rng_len (lo : Int) (n : Nat) : (rng lo n).length = n := by simp [rng]
theorem itr_ok {K : Fr} {Hf : Hp} (lo : Int) (n : Nat) : ItOk K (Itr lo n) Hf (rng lo n) := fun i H s => ⟨fun hi => by rw [rng_len] at hi; exact hi, fun hi => by
    rw [rng_len] at hi
    subst hi
    exact Nat.le_refl _, fun x H' hy => ⟨hy.1, fun d hd => by
    obtain ⟨_, rfl⟩ := hy
    unfold rng at hd
    rw [List.getElem?_map] at hd
    obtain ⟨k, hk, rfl⟩ := Option.map_eq_some_iff.mp hd
    obtain ⟨h1, h2⟩ := List.getElem?_eq_some_iff.mp hk
    simp at h2
    subst h2
    rfl⟩⟩
def rg1 : List D → Option (List D)
  | [.int j] => if j ≤ 1000000 ∧ -1000000 ≤ j then some (rng 0 j.toNat) else none
  | _ => none
def rg2 : List D → Option (List D)
  | [.int i, .int j] => if j ≤ 1000000 ∧ -1000000 ≤ j ∧ i ≤ 1000000 ∧ -1000000 ≤ i then some (rng i (j - i).toNat) else none
  | _ => none
def iR (h : List D → Option (List D)) (g : En → Option (List D)) : En → Option (List D) := fun Γ => (g Γ).bind h
theorem iv_rg1 {a : Expr} {p : Pos} {g : En → Option (List D)} (hg : Gl X "range") (hm : X.mg "range" = none) (ha : AV X [a] g) (hs : starEach [a] X.env = [(false, eval a X.env)] := by rfl) : IV X tg (.Call (.Name "range" p) [a] [] pos) (iR rg1 g) := by
  refine ⟨PI.imp (pi_range1 hg hm ha.pa hs) fun σ H R ⟨Γ, Hf, ds, w, e1, q⟩ => ?_⟩
  obtain ⟨d, e2, e3⟩ := Option.bind_eq_some_iff.mp e1
  refine ⟨Γ, Hf, d, w, e2, fun vs H' Hf' x r => ?_⟩
  unfold rg1 at e3
  split at e3
  · rename_i j
    split at e3
    · cases e3
      rename_i hj
      obtain ⟨v, r', rfl, h1, h2⟩ := r
      cases (show v = .int j from h1)
      cases (show r' = [] from h2)
      exact ⟨j, rfl, by omega, by omega, q _ H' Hf' x (itr_ok 0 j.toNat)⟩
    · cases e3
  · cases e3
theorem iv_rg2 {a b : Expr} {p : Pos} {g : En → Option (List D)} (hg : Gl X "range") (hm : X.mg "range" = none) (ha : AV X [a, b] g) (hs : starEach [a, b] X.env = [(false, eval a X.env), (false, eval b X.env)] := by rfl) (hs2 : starEach [b] X.env = [(false, eval b X.env)] := by rfl) :
    IV X tg (.Call (.Name "range" p) [a, b] [] pos) (iR rg2 g) := by
  refine ⟨PI.imp (pi_range2 hg hm ha.pa hs hs2) fun σ H R ⟨Γ, Hf, ds, w, e1, q⟩ => ?_⟩
  obtain ⟨d, e2, e3⟩ := Option.bind_eq_some_iff.mp e1
  refine ⟨Γ, Hf, d, w, e2, fun vs H' Hf' x r => ?_⟩
  unfold rg2 at e3
  split at e3
  · rename_i i j
    split at e3
    · cases e3
      rename_i hj
      obtain ⟨v, r', rfl, h1, v2, r2, rfl, h2, h3⟩ := r
      cases (show v = .int i from h1)
      cases (show v2 = .int j from h2)
      cases (show r2 = [] from h3)
      exact ⟨i, j, rfl, ⟨by omega, by omega, by omega, by omega⟩, q _ H' Hf' x (itr_ok i _)⟩
    · cases e3
  · cases e3
end

/-! ### for -/
def loopF (b : Bd) (body : En → Out) : List D → En → Out
  | [], Γ => .nx Γ
  | d :: r, Γ => match b d Γ with
    | none => .bad
    | some Γ1 => match body Γ1 with
      | .nx Γ2 => loopF b body r Γ2
      | .ct Γ2 => loopF b body r Γ2
      | .brk Γ2 => .nx Γ2
      | o => o
def sFor (f : En → Option (List D)) (b : Bd) (body : En → Out) : En → Out := fun Γ => match f Γ with
  | some ds => loopF b body ds Γ
  | none => .bad
section
variable {X : Cx} {xq : XQ} {tg iter : Expr} {pos : Pos} {body : List Stmt}
theorem sv_for {ts : List Nat} {f : En → Option (List D)} {b : Bd} {s : En → Out} (hp : PassesOwn (model X.prog X.w) X.A X.env X.xe) (hc : X.calm = true) (hi : IV X tg iter f) (hg : GV X tg ts b) (hb : SVs X xq body s)
    (hs : ∀ x, foldedSetIterable iter X.env x = pure x := by intro _; rfl) : SV X xq (.For tg iter body [] pos) (sFor f b s) := by
  refine ⟨PS.imp (ps_for hp hc hi.pi hg.pg hb.ps hs) fun Dn σ H ⟨H0, Hf0, Γ, Hf, w, q⟩ => ?_⟩
  unfold sFor at q
  cases e1 : f Γ with
  | none => rw [e1] at q; exact q.elim
  | some ds =>
    rw [e1] at q
    refine ⟨Γ, Hf, ds, w.w0, e1, fun J H1 Hf1 x ok => ?_⟩
    have w1 := w.ext x
    have back : ∀ {Γ' σ' H' Hf'}, Wf X.K H0 Hf1 Γ' σ' H' Hf' → Wf X.K H0 Hf0 Γ' σ' H' Hf' := fun {Γ' σ' H' Hf'} w' => Wf.compose w1.sub0 w1.new w'
    refine ⟨fun i m σ H => ∃ Γ Hf, Wf X.K H0 Hf1 Γ σ H Hf ∧ m = ds.length - i ∧ i ≤ ds.length ∧ Post X.K H0 Hf0 xq Dn (loopF b s (ds.drop i) Γ),
      ⟨ds.length, Γ, Hf1, w1.rebase, by omega, Nat.zero_le _, by rw [List.drop_zero]; exact q⟩, ?_⟩
    rintro i m σ2 H2 ⟨Γ2, Hf2, w2, rfl, hi, q2⟩
    obtain ⟨go, stop, yld⟩ := ok i H2 (w2.sub0.trans w2.sub)
    by_cases hlt : i < ds.length
    · refine .inr ⟨go hlt, fun σ' H' => ∃ Γ Hf, Wf X.K H0 Hf1 Γ σ' H' Hf ∧ Post X.K H0 Hf0 xq Dn (loopF b s (ds.drop (i + 1)) Γ), fun σ' H' ⟨Γ', Hf', w', q'⟩ => ⟨ds.length - (i + 1), by omega, Γ', Hf', w', rfl, hlt, q'⟩, fun y H' hy => ?_⟩
      obtain ⟨rfl, hr⟩ := yld y H' hy
      have hd := List.getElem?_eq_getElem hlt
      rw [List.drop_eq_getElem_cons hlt] at q2
      unfold loopF at q2
      cases e3 : b ds[i] Γ2 with
      | none => rw [e3] at q2; exact q2.elim
      | some Γ3 =>
        rw [e3] at q2
        simp only at q2
        refine ⟨H0, Hf1, Γ2, Hf2, ds[i], Γ3, w2, (hr _ hd).mono w2.sub0, e3, fun σ3 _ w3 => ⟨H0, Hf1, Γ3, Hf2, w3, ?_⟩⟩
        cases e4 : s Γ3 with
        | nx Γ4 => rw [e4] at q2; exact fun σ4 H4 Hf4 w4 => ⟨Γ4, Hf4, w4, q2⟩
        | ct Γ4 => rw [e4] at q2; exact fun σ4 H4 Hf4 w4 => ⟨Γ4, Hf4, w4, q2⟩
        | brk Γ4 => rw [e4] at q2; exact fun σ4 H4 Hf4 w4 => q2 σ4 H4 Hf4 (back w4)
        | ret d Γ4 => rw [e4] at q2; exact fun v σ4 H4 Hf4 w4 r => q2 v σ4 H4 Hf4 (back w4) r
        | rto s => rw [e4] at q2; exact fun v O Γ4 σ4 H4 Hf4 w4 h r => q2 v O Γ4 σ4 H4 Hf4 (back w4) h r
        | exc c => rw [e4] at q2; exact fun Γ4 σ4 H4 Hf4 w4 => q2 Γ4 σ4 H4 Hf4 (back w4)
        | bad => rw [e4] at q2; exact q2.elim
    · have e : i = ds.length := by omega
      refine .inl ⟨stop e, ?_⟩
      rw [e, List.drop_length] at q2
      exact q2 σ2 H2 Hf2 (back w2)

/-! ### while, with a number of turns that is enough -/
def loopW (c : En → Option Bool) (body : En → Out) : Nat → En → Out
  | 0, _ => .bad
  | n + 1, Γ => match c Γ with
    | none => .bad
    | some false => .nx Γ
    | some true => match body Γ with
      | .nx Γ2 => loopW c body n Γ2
      | .ct Γ2 => loopW c body n Γ2
      | .brk Γ2 => .nx Γ2
      | o => o
def sWhile (N : En → Nat) (c : En → Option Bool) (body : En → Out) : En → Out := fun Γ => loopW c body (N Γ) Γ
theorem sv_while {c : Expr} {fc : En → Option Bool} {s : En → Out} (N : En → Nat) (hp : PassesOwn (model X.prog X.w) X.A X.env X.xe) (hc : TV X c fc) (hb : SVs X xq body s) : SV X xq (.While c body [] pos) (sWhile N fc s) := by
  refine ⟨PS.imp (ps_while hp hc.pt hb.ps) fun Dn σ H ⟨H0, Hf0, Γ, Hf, w, q⟩ => ?_⟩
  refine ⟨fun m σ H => ∃ Γ Hf, Wf X.K H0 Hf0 Γ σ H Hf ∧ Post X.K H0 Hf0 xq Dn (loopW fc s m Γ), ⟨N Γ, Γ, Hf, w, q⟩, ?_⟩
  rintro m σ2 H2 ⟨Γ2, Hf2, w2, q2⟩
  cases m with
  | zero => exact q2.elim
  | succ m =>
    unfold loopW at q2
    cases e1 : fc Γ2 with
    | none => rw [e1] at q2; exact q2.elim
    | some k =>
      rw [e1] at q2
      refine tT_st w2 e1 fun H3 Hf3 w3 => ?_
      cases k with
      | false => rw [if_neg Bool.false_ne_true]; exact q2 σ2 H3 Hf3 w3
      | true =>
        rw [if_pos rfl]
        simp only at q2
        refine ⟨fun σ' H' => ∃ Γ Hf, Wf X.K H0 Hf0 Γ σ' H' Hf ∧ Post X.K H0 Hf0 xq Dn (loopW fc s m Γ), fun σ' H' ⟨Γ', Hf', w', q'⟩ => ⟨m, Nat.lt_succ_self _, Γ', Hf', w', q'⟩, H0, Hf0, Γ2, Hf3, w3, ?_⟩
        cases e4 : s Γ2 with
        | nx Γ4 => rw [e4] at q2; exact fun σ4 H4 Hf4 w4 => ⟨Γ4, Hf4, w4, q2⟩
        | ct Γ4 => rw [e4] at q2; exact fun σ4 H4 Hf4 w4 => ⟨Γ4, Hf4, w4, q2⟩
        | brk Γ4 => rw [e4] at q2; exact q2
        | ret d Γ4 => rw [e4] at q2; exact q2
        | rto s => rw [e4] at q2; exact q2
        | exc c => rw [e4] at q2; exact q2
        | bad => rw [e4] at q2; exact q2.elim
end

/-! ### comprehensions -/
def compF (b : Bd) (c : En → Option Bool) (f : En → Option D) (Γ : En) : List D → Option (List D)
  | [] => some []
  | d :: r => (b d Γ).bind fun Γ1 => (c Γ1).bind fun k => if k = true then (f Γ1).bind fun x => (compF b c f Γ r).map fun xs => x :: xs else compF b c f Γ r
def fComp (vs : List Nat) (f : En → Option (List D)) (b : Bd) (c : En → Option Bool) (elt : En → Option D) : En → Option (List D) := fun Γ => (f Γ).bind fun ds => if ds.length ≤ 1000000 then compF b c elt (wipeE Γ vs) ds else none
/-- a fresh list: nobody else has it -/
def tF (K : Fr) (f : En → Option (List D)) : TE := fun σ H Q => ∃ Γ Hf ds, W0 K Γ σ H Hf ∧ f Γ = some ds ∧ ∀ a vs H' Hf', Ext H Hf H' Hf' → H a = none → H' a = some (.lst vs) → Hf' a = none → RpL K Hf' ds vs → Q (.ref a) H'
structure FV (X : Cx) (e : Expr) (f : En → Option (List D)) : Prop where
  pe : PE X e (tF X.K f)
def eL (f : En → Option (List D)) : En → Option D := fun Γ => (f Γ).map D.lst
theorem freeze {H Hf : Hp} {a : Addr} {u : HO} (s : Same Hf H) (h : H a = some u) (n : Hf a = none) : Same Hf (upd Hf a u) ∧ Same (upd Hf a u) H := by
  refine ⟨same_upd n, fun b x e => ?_⟩
  by_cases hb : b = a
  · subst hb; rw [upd_same] at e; cases e; exact h
  · rw [upd_ne hb] at e; exact s _ _ e
theorem tF_of {K : Fr} {f : En → Option (List D)} {σ : L2.St} {H : Hp} {Q : VK} (q : tE K (eL f) σ H Q) : tF K f σ H Q := by
  obtain ⟨Γ, Hf, d, w, e1, q⟩ := q
  obtain ⟨ds, e2, e3⟩ := Option.map_eq_some_iff.mp e1
  subst e3
  refine ⟨Γ, Hf, ds, w, e2, fun a vs H' Hf' x n h hn r => ?_⟩
  obtain ⟨s1, s2⟩ := freeze x.2.2.1 h hn
  refine q _ H' (upd Hf' a (.lst vs)) ⟨x.1, x.2.1.trans s1, s2, fun b => ?_⟩ ⟨a, vs, rfl, upd_same, r.mono s1⟩
  by_cases hb : b = a
  · subst hb; exact .inr (.inr (.inl n))
  · rw [upd_ne hb]; exact x.2.2.2 b
theorem FV.ev {X : Cx} {e : Expr} {f : En → Option (List D)} (h : FV X e f) : EV X e (eL f) := ev_of h.pe fun _ _ _ q => tF_of q
theorem Wf.poke {K : Fr} {H0 Hf0 H Hf : Hp} {Γ : En} {σ : L2.St} {a : Addr} {o o' : HO} (w : Wf K (upd H0 a o) Hf0 Γ σ H Hf) (h0 : H0 a = none) (hn : Hf a = none) : Wf K (upd H0 a o') Hf0 Γ σ (upd H a o') Hf := by
  refine ⟨fun b x e => ?_, w.sub0, fun b x e => ?_, fun b => ?_, w.len, ?_⟩
  · rw [upd_ne (ne_of_none e hn)]; exact w.sub _ _ e
  · by_cases hb : b = a
    · subst hb; rw [upd_same] at e ⊢; exact e
    · rw [upd_ne hb] at e ⊢; exact w.same0 b x (by rw [upd_ne hb]; exact e)
  · by_cases hb : b = a
    · subst hb; exact .inl hn
    · rw [upd_ne hb]
      have := w.new b
      rw [upd_ne hb] at this
      exact this
  · obtain ⟨ow, h1, h2, h3⟩ := w.own
    have hne : ∀ i, a ∉ ow i := fun i ha => by
      have := (h3 i a ha).2.1
      rw [upd_same] at this; cases this
    refine ⟨ow, fun i s hs => ?_, h2, fun i c hc => ?_⟩
    · obtain ⟨u, e1, e2⟩ := h1 i s hs
      exact ⟨u, e1, e2.ext (Same.refl _) fun c hc x hx => by rw [upd_ne (show c ≠ a from fun e => hne i (e ▸ hc))]; exact hx⟩
    · have hca : c ≠ a := fun e => hne i (e ▸ hc)
      obtain ⟨x, y, z⟩ := h3 i c hc
      rw [upd_ne hca] at y ⊢
      rw [upd_ne hca]
      exact ⟨x, y, z⟩
theorem Wf.laid {K : Fr} {H0 Hf0 H Hf : Hp} {Γ : En} {σ : L2.St} {a : Addr} {o : HO} (w : Wf K H0 Hf0 Γ σ H Hf) (h : H a = none) : Wf K (upd H0 a o) Hf0 Γ σ (upd H a o) Hf := by
  have hn : Hf a = none := w.sub.free h
  have h0 : H0 a = none := w.same0.free h
  refine ⟨fun b x e => ?_, w.sub0, fun b x e => ?_, fun b => ?_, w.len, ?_⟩
  · rw [upd_ne (ne_of_none e hn)]; exact w.sub _ _ e
  · by_cases hb : b = a
    · subst hb; rw [upd_same] at e ⊢; exact e
    · rw [upd_ne hb] at e ⊢; exact w.same0 b x e
  · by_cases hb : b = a
    · subst hb; exact .inl hn
    · rw [upd_ne hb]; exact w.new b
  · obtain ⟨ow, h1, h2, h3⟩ := w.own
    have hne : ∀ i, a ∉ ow i := fun i ha => by
      obtain ⟨_, _, u, hu, _⟩ := h3 i a ha
      rw [h] at hu; cases hu
    refine ⟨ow, fun i s hs => ?_, h2, fun i c hc => ?_⟩
    · obtain ⟨u, e1, e2⟩ := h1 i s hs
      exact ⟨u, e1, e2.ext (Same.refl _) fun c hc x hx => by rw [upd_ne (show c ≠ a from fun e => hne i (e ▸ hc))]; exact hx⟩
    · have hca : c ≠ a := fun e => hne i (e ▸ hc)
      obtain ⟨x, y, z⟩ := h3 i c hc
      rw [upd_ne hca, upd_ne hca]
      exact ⟨x, y, z⟩
section
variable {X : Cx} {elt tg iter : Expr} {ifs : List Expr} {scope : Scope} {pos : Pos}
structure TsV (X : Cx) (ifs : List Expr) (f : En → Option Bool) : Prop where
  pt : PTs X ifs (tT X.K f)
def bYes : En → Option Bool := fun _ => some true
theorem PTs.imp {ifs : List Expr} {t t' : TT} (h : PTs X ifs t) (i : ∀ σ H Q, t' σ H Q → t σ H Q) : PTs X ifs t' := ⟨fun pins s σ H Q I q => h.run pins s σ H Q I (i _ _ _ q)⟩
theorem tsv_nil : TsV X [] bYes := ⟨PTs.imp pts_nil fun σ H Q ⟨Γ, Hf, b, w, e, q⟩ => by cases e; exact q H Hf (Ext.refl w.sub)⟩
theorem tsv_one {c : Expr} {f : En → Option Bool} (h : TV X c f) : TsV X [c] f := ⟨pts_one h.pt⟩
theorem wipe_but {vs ts : List Nat} {σ σ' : L2.St} (hs : ∀ i ∈ ts, i ∈ vs) (h : But ts (L2.wipe σ vs) σ') : L2.wipe σ' vs = L2.wipe σ vs := by
  have key : ∀ (ρ : L2.St) (i : Nat), i ∈ vs → i < ρ.length → (L2.wipe ρ vs)[i]? = some none := fun ρ i hi hl => by
    cases e : (L2.wipe ρ vs)[i]? with
    | none => exact absurd (List.getElem?_eq_none_iff.mp e) (by rw [wipe_length]; omega)
    | some o =>
      cases o with
      | none => rfl
      | some x => exact absurd hi (wipe_some e).2
  have hl : σ'.length = σ.length := by rw [h.1, wipe_length]
  apply List.ext_getElem?
  intro i
  by_cases hi : i ∈ vs
  · by_cases hlt : i < σ.length
    · rw [key σ' i hi (by omega), key σ i hi hlt]
    · rw [List.getElem?_eq_none_iff.mpr (by rw [wipe_length]; omega), List.getElem?_eq_none_iff.mpr (by rw [wipe_length]; omega)]
  · rw [wipe_out hi, h.2 i fun z => hi (hs i z)]
/-- the comprehension's reading -/
theorem tLc_of {K : Fr} {ts vs : List Nat} {f : En → Option (List D)} {b : Bd} {c : En → Option Bool} {g : En → Option D} (hs : ∀ i ∈ ts, i ∈ vs) {σ : L2.St} {H : Hp} {Q : VK}
    (q : tF K (fComp vs f b c g) σ H Q) : tLc (tI K f) (tG K ts b) (tT K c) (tE K g) vs σ H Q := by
  obtain ⟨Γ, Hf, rs, w, e1, q⟩ := q
  obtain ⟨ds, e2, e3⟩ := Option.bind_eq_some_iff.mp e1
  by_cases hlen : ds.length ≤ 1000000
  case neg => rw [if_neg hlen] at e3; cases e3
  rw [if_pos hlen] at e3
  refine ⟨Γ, Hf, ds, w, e2, fun J H1 Hf1 x ok Dd hD => ?_⟩
  have w1 : W0 K (wipeE Γ vs) (L2.wipe σ vs) H1 Hf1 := (w.ext x).wipe vs
  have wA : Wf K (upd H00 Dd (.lst [])) Hf1 (wipeE Γ vs) (L2.wipe σ vs) (upd H1 Dd (.lst [])) Hf1 := w1.rebase.laid hD
  let WW : Nat → Nat → Hp → Prop := fun i m H => ∃ Hf acc rs0 rest, Wf K (upd H00 Dd (.lst acc)) Hf1 (wipeE Γ vs) (L2.wipe σ vs) H Hf ∧ Hf Dd = none ∧ RpL K Hf rs0 acc ∧ acc.length ≤ i ∧ m = ds.length - i ∧ i ≤ ds.length ∧ compF b c g (wipeE Γ vs) (ds.drop i) = some rest ∧ rs = rs0 ++ rest ∧
    Same H1 H ∧ Same Hf1 Hf ∧ ∀ b, Hf b = none ∨ Hf1 b ≠ none ∨ H1 b = none ∨ ∃ xs, H1 b = some (.tup xs)
  have hDf : Hf1 Dd = none := x.2.2.1.free hD
  refine ⟨WW, ⟨ds.length, Hf1, [], [], rs, wA, hDf, rfl, Nat.zero_le _, rfl, Nat.zero_le _, by rw [List.drop_zero]; exact e3, rfl, same_upd hD, Same.refl _, fun b => ?_⟩, ?_⟩
  · cases z : Hf1 b with
    | none => exact .inl rfl
    | some _ => exact .inr (.inl (fun q => nomatch q))
  rintro i m H2 ⟨Hf2, acc, rs0, rest, w2, hD2, r2, hl2, rfl, hi, e4, e5, s1, s2, s3⟩
  have hHD : H2 Dd = some (.lst acc) := w2.same0 _ _ upd_same
  obtain ⟨go, stop, yld⟩ := ok i H2 (s2.trans w2.sub)
  by_cases hlt : i < ds.length
  · refine .inr ⟨go hlt, fun H' => WW (i + 1) (ds.length - (i + 1)) H', fun H' z => ⟨_, by omega, z⟩, fun y H' hy => ?_⟩
    obtain ⟨rfl, hr⟩ := yld y H' hy
    have hd := List.getElem?_eq_getElem hlt
    rw [List.drop_eq_getElem_cons hlt] at e4
    unfold compF at e4
    obtain ⟨Γ1, e6, e7⟩ := Option.bind_eq_some_iff.mp e4
    obtain ⟨k, e8, e9⟩ := Option.bind_eq_some_iff.mp e7
    refine ⟨_, Hf1, wipeE Γ vs, Hf2, ds[i], Γ1, w2, (hr _ hd).mono s2, e6, fun σ3 hb w3 => ⟨wipe_but hs hb, Γ1, Hf2, k, w3.w0, e8, fun H3 Hf3 x3 => ?_⟩⟩
    -- behind the test, and behind the element
    have keep : ∀ {H4 Hf4 : Hp}, Ext H' Hf2 H4 Hf4 → Hf4 Dd = none ∧ H4 Dd = some (.lst acc) ∧ Same H1 H4 ∧ Same Hf1 Hf4 ∧ (∀ b, Hf4 b = none ∨ Hf1 b ≠ none ∨ H1 b = none ∨ ∃ xs, H1 b = some (.tup xs)) := fun {H4 Hf4} x4 => by
      refine ⟨?_, x4.1 _ _ hHD, s1.trans x4.1, s2.trans x4.2.1, fun b => ?_⟩
      · rcases x4.2.2.2 Dd with z | z | z | ⟨xs, z⟩
        · exact z
        · exact absurd hD2 z
        · rw [hHD] at z; cases z
        · rw [hHD] at z; cases z
      · rcases x4.2.2.2 b with z | z | z | ⟨xs, z⟩
        · exact .inl z
        · rcases s3 b with u | u | u
          · exact absurd u z
          · exact .inr (.inl u)
          · exact .inr (.inr u)
        · exact .inr (.inr (.inl (s1.free z)))
        · cases u : H1 b with
          | none => exact .inr (.inr (.inl rfl))
          | some o =>
            have := s1 b o u
            rw [z] at this; cases this
            exact .inr (.inr (.inr ⟨xs, rfl⟩))
    cases k with
    | true =>
      dsimp only
      rw [if_pos rfl] at e9 ⊢
      obtain ⟨y', e10, e11⟩ := Option.bind_eq_some_iff.mp e9
      obtain ⟨more, e12, e13⟩ := Option.map_eq_some_iff.mp e11
      refine ⟨Γ1, Hf3, y', (w3.ext x3).w0, e10, fun v H4 Hf4 x4 r4 => ?_⟩
      obtain ⟨k1, k2, k3, k4, k5⟩ := keep (x3.trans x4)
      refine ⟨acc, k2, Nat.lt_of_le_of_lt hl2 (Nat.lt_of_lt_of_le hlt (Nat.le_trans hlen (by rw [sizeLine_eq]; decide))), ?_⟩
      refine ⟨Hf4, acc ++ [v], rs0 ++ [y'], more, ((w2.ext (x3.trans x4)).poke rfl k1), k1, (r2.mono (x3.trans x4).2.1).append (.one r4), by simp; omega, rfl, hlt, e12, by rw [e5, ← e13]; simp, ?_, k4, k5⟩
      exact fun b o hb => by rw [upd_ne (ne_of_none hb hD)]; exact k3 b o hb
    | false =>
      dsimp only
      rw [if_neg Bool.false_ne_true] at e9 ⊢
      obtain ⟨k1, k2, k3, k4, k5⟩ := keep x3
      exact ⟨Hf3, acc, rs0, rest, w2.ext x3, k1, r2.mono x3.2.1, by omega, rfl, hlt, e9, e5, k3, k4, k5⟩
  · have e : i = ds.length := by omega
    refine .inl ⟨stop e, ?_⟩
    rw [e, List.drop_length] at e4
    have e4' : some [] = some rest := e4
    cases e4'
    rw [List.append_nil] at e5
    subst e5
    exact q Dd acc H2 Hf2 (x.trans ⟨s1, s2, w2.sub, s3⟩) (x.1.free hD) hHD hD2 r2
variable {X : Cx} {elt tg iter : Expr} {ifs : List Expr} {scope : Scope} {pos : Pos}
theorem fv_lc {own : List (Str × Nat)} {ts : List Nat} {f : En → Option (List D)} {b : Bd} {c : En → Option Bool} {g : En → Option D} (hc : X.calm = true) (hN : X.N.Nodup) (hi : IV X tg iter f) (ok : BlkOk X.N X.env.scope scope own)
    (hg : ∀ (s : Shared) (H : Hp) (C : Addr) (cl : List (Str × Addr)) (fp : List Addr), GV (X.blk s H scope (compEnvC scope cl C X.env) fp) tg ts b) (ht : ∀ (s : Shared) (H : Hp) (C : Addr) (cl : List (Str × Addr)) (fp : List Addr), TsV (X.blk s H scope (compEnvC scope cl C X.env) fp) ifs c)
    (he : ∀ (s : Shared) (H : Hp) (C : Addr) (cl : List (Str × Addr)) (fp : List Addr), EV (X.blk s H scope (compEnvC scope cl C X.env) fp) elt g) (hs2 : ∀ i ∈ ts, i ∈ own.map (·.2) := by decide) (hs : ∀ x, foldedSetIterable iter X.env x = pure x := by intro _; rfl) :
    FV X (.ListComp elt [⟨tg, iter, ifs, 0⟩] scope pos) (fComp (own.map (·.2)) f b c g) :=
  ⟨PE.imp (pe_lc hc hN hi.pi ok (fun s H C cl fp => (hg s H C cl fp).pg) (fun s H C cl fp => (ht s H C cl fp).pt) (fun s H C cl fp => (he s H C cl fp).pe) hs) fun _ _ _ q => tLc_of hs2 q⟩
end
end DL

/-! DL3: operators on data. -/
namespace DL
open PySem PySem.Spec PyProof.Rows L2

/-! ### data as the library's data -/
mutual
def toPy : D → PyData
  | .non => .none
  | .bl b => .bool b
  | .int i => .int i
  | .str x => .str x
  | .lst xs => .list (toPyL xs)
  | .tup xs => .tuple (toPyL xs)
  | .dct _ => .dict []
  | .emp => .dict []
  | .scr ns => .list (ns.map PyData.int)
def toPyL : List D → List PyData
  | [] => []
  | x :: xs => toPy x :: toPyL xs
end
theorem toPyL_map : ∀ xs : List D, toPyL xs = xs.map toPy
  | [] => rfl
  | x :: xs => by rw [toPyL, toPyL_map xs]; rfl
def okN : Nat → D → Bool
  | _, .non => true
  | _, .bl _ => true
  | _, .int _ => true
  | _, .str _ => true
  | n + 1, .lst xs => xs.all (okN n)
  | n + 1, .tup xs => xs.all (okN n)
  | _ + 1, .scr _ => true
  | _, _ => false
theorem depth_ints : ∀ ns : List Int, PyData.depthAll (ns.map PyData.int) ≤ 1
  | [] => by simp [PyData.depthAll]
  | n :: ns => by have := depth_ints ns; simp [PyData.depthAll, PyData.depth]; omega
theorem plain_ints : ∀ ns : List Int, PyData.plainAll (ns.map PyData.int) = true
  | [] => rfl
  | n :: ns => by rw [List.map_cons, PyData.plainAll, plain_ints ns]; rfl
mutual
theorem okN_plain : ∀ (n : Nat) (d : D), okN n d = true → (toPy d).plain = true ∧ (toPy d).depth ≤ 2 * n + 1
  | _, .non, _ => ⟨rfl, by simp [toPy, PyData.depth]⟩
  | _, .bl _, _ => ⟨rfl, by simp [toPy, PyData.depth]⟩
  | _, .int _, _ => ⟨rfl, by simp [toPy, PyData.depth]⟩
  | _, .str _, _ => ⟨rfl, by simp [toPy, PyData.depth]⟩
  | n + 1, .lst xs, h => by
    have := okN_plainL n xs h
    refine ⟨this.1, ?_⟩
    simp only [toPy, PyData.depth]; omega
  | n + 1, .tup xs, h => by
    have := okN_plainL n xs h
    refine ⟨this.1, ?_⟩
    simp only [toPy, PyData.depth]; omega
  | n + 1, .scr ns, h => by
    have := depth_ints ns
    refine ⟨plain_ints ns, ?_⟩
    simp only [toPy, PyData.depth]; omega
  | 0, .lst _, h => by cases h
  | 0, .tup _, h => by cases h
  | 0, .scr _, h => by cases h
  | 0, .dct _, h => by cases h
  | _ + 1, .dct _, h => by cases h
  | 0, .emp, h => by cases h
  | _ + 1, .emp, h => by cases h
theorem okN_plainL : ∀ (n : Nat) (xs : List D), xs.all (okN n) = true → PyData.plainAll (toPyL xs) = true ∧ PyData.depthAll (toPyL xs) ≤ 2 * n + 2
  | n, [], _ => ⟨rfl, by simp [toPyL, PyData.depthAll]⟩
  | n, x :: xs, h => by
    rw [List.all_cons, Bool.and_eq_true] at h
    obtain ⟨a1, a2⟩ := okN_plain n x h.1
    obtain ⟨b1, b2⟩ := okN_plainL n xs h.2
    refine ⟨?_, ?_⟩
    · simp only [toPyL, PyData.plainAll, a1, b1]; rfl
    · simp only [toPyL, PyData.depthAll]; omega
end
section
variable {K : Fr} {H : Hp}
theorem dpAll_ints : ∀ ns : List Int, DpAll K H (ns.map V.int) (ns.map PyData.int)
  | [] => .nil
  | n :: ns => .cons (.int n) (dpAll_ints ns)
mutual
theorem Rp.dp : ∀ (n : Nat) (d : D) (v : V), okN n d = true → Rp K H d v → Dp K H v (toPy d)
  | _, .non, _, _, r => by cases (show _ = V.non from r); exact .non
  | _, .bl b, _, _, r => by cases (show _ = V.bl b from r); exact .bl b
  | _, .int i, _, _, r => by cases (show _ = V.int i from r); exact .int i
  | _, .str x, _, _, r => by cases (show _ = V.str x from r); exact .str x
  | n + 1, .lst xs, _, h, ⟨a, vs, e, q, r⟩ => by subst e; exact .lst (SqL.of q) (RpL.dp n xs vs h r)
  | n + 1, .tup xs, _, h, ⟨a, vs, e, q, r⟩ => by subst e; exact .tup (SqT.of q) (RpL.dp n xs vs h r)
  | n + 1, .scr ns, _, h, ⟨a, e, q⟩ => by subst e; exact .lst q (dpAll_ints ns)
  | 0, .lst _, _, h, _ => by cases h
  | 0, .tup _, _, h, _ => by cases h
  | 0, .scr _, _, h, _ => by cases h
  | 0, .dct _, _, h, _ => by cases h
  | _ + 1, .dct _, _, h, _ => by cases h
  | 0, .emp, _, h, _ => by cases h
  | _ + 1, .emp, _, h, _ => by cases h
theorem RpL.dp : ∀ (n : Nat) (xs : List D) (vs : List V), xs.all (okN n) = true → RpL K H xs vs → DpAll K H vs (toPyL xs)
  | _, [], _, _, r => by cases (show _ = ([] : List V) from r); exact .nil
  | n, x :: xs, _, h, ⟨v, r, e, q, t⟩ => by
    subst e
    rw [List.all_cons, Bool.and_eq_true] at h
    exact .cons (Rp.dp n x v h.1 q) (RpL.dp n xs r h.2 t)
end
theorem Dp.mono {H' : Hp} (h : Same H H') : ∀ {d : PyData} {v : V}, Dp K H v d → Dp K H' v d := by
  intro d v q
  refine Dp.rec (motive_1 := fun v d _ => Dp K H' v d) (motive_2 := fun vs ds _ => DpAll K H' vs ds) .non (fun b => .bl b) (fun i => .int i) (fun x => .str x) (fun s _ t => .lst (h.seq s) t) (fun {a xs ds} s _ t => .tup ?_ t) .nil (fun _ _ a b => .cons a b) q
  rcases s with (s | ⟨o, s⟩) | s
  · exact .inl (.inl (h _ _ s))
  · exact .inl (.inr ⟨o, h _ _ s⟩)
  · exact .inr s
end

/-! ### == and in -/
def eqv (d e : D) : Bool := PyData.eqv (toPy d) (toPy e)
def dEq (d e : D) : Option D := if okN 9 d = true ∧ okN 9 e = true then some (.bl (eqv d e)) else match d, e with
  | .lst xs, .lst ys => if xs.length ≠ ys.length then some (.bl false) else none
  | _, _ => none
def dNe (d e : D) : Option D := if okN 9 d = true ∧ okN 9 e = true then some (.bl (!eqv d e)) else none
section
variable {X : Cx}
def rEqP (K : Fr) (neg : Bool) : R2 := fun x y H Q => ∃ d e, Dp K H x d ∧ Dp K H y e ∧ d.plain = true ∧ e.plain = true ∧ d.depth ≤ 60 ∧ Q (.bl (if neg then !PyData.eqv d e else PyData.eqv d e)) H
/-- lists of other lengths -/
def rLenL (K : Fr) : R2 := fun x y H Q => ∃ a b xs ys, x = .ref a ∧ y = .ref b ∧ SqL K H a xs ∧ SqL K H b ys ∧ xs.length ≠ ys.length ∧ Q (.bl false) H
theorem op_eqL (hu : X.A.units + 64 < cLine) : OpR X (compareOp .Eq) (rLenL X.K) := by
  rintro pins s σ H x y v u Q I rx ry ⟨a, b, xs, ys, rfl, rfl, h1, h2, hn, q⟩
  cases rx
  cases ry
  obtain ⟨its, r1, p1, _⟩ := I.list h1
  obtain ⟨jts, r2, p2, _⟩ := I.list h2
  refine SeqAt.eq_list_lengthsAt p1.isList p2.isList ?_ (by omega) ⟨.bl false, H, I, rfl, q⟩
  have e1 := r1.length
  have e2 := r2.length
  simp
  omega
def rEqQ (K : Fr) : R2 := fun x y H Q => rEqP K false x y H Q ∨ rLenL K x y H Q
theorem op_eqP0 (hu : X.A.units + 64 < cLine) : OpR X (compareOp .Eq) (rEqP X.K false) := by
  intro pins s σ H x y v u Q I rx ry h
  obtain ⟨d, e, hd, he, pd, pe, hl, q⟩ := h
  obtain ⟨as, r1⟩ := L2.Dp.reads I d x v hd rx
  obtain ⟨bs, r2⟩ := L2.Dp.reads I e y u he ry
  exact SeqAt.eq_plain r1 r2 pd pe (by have := Nat.min_le_left d.depth e.depth; omega) ⟨.bl _, H, I, rfl, q⟩
theorem op_eqP (hu : X.A.units + 64 < cLine) : OpR X (compareOp .Eq) (rEqQ X.K) := (op_eqP0 hu).or (op_eqL hu)
theorem op_neP (hu : X.A.units + 64 < cLine) : OpR X (compareOp .NotEq) (rEqP X.K true) := by
  intro pins s σ H x y v u Q I rx ry h
  obtain ⟨d, e, hd, he, pd, pe, hl, q⟩ := h
  obtain ⟨as, r1⟩ := L2.Dp.reads I d x v hd rx
  obtain ⟨bs, r2⟩ := L2.Dp.reads I e y u he ry
  exact SeqAt.ne_plain r1 r2 pd pe (by have := Nat.min_le_left d.depth e.depth; omega) ⟨.bl _, H, I, rfl, q⟩
theorem eq_r2 {K : Fr} : R2d K (rEqQ K) dEq := by
  intro d e z h H Hf v u Q s r1 r2 q
  unfold dEq at h
  split at h
  · rename_i hh
    cases h
    have p1 := okN_plain 9 d hh.1
    have p2 := okN_plain 9 e hh.2
    exact .inl ⟨toPy d, toPy e, Dp.mono s (Rp.dp 9 d v hh.1 r1), Dp.mono s (Rp.dp 9 e u hh.2 r2), p1.1, p2.1, by omega, q _ H Hf (Ext.refl s) rfl⟩
  · split at h
    · rename_i xs ys
      split at h
      · rename_i hn
        cases h
        obtain ⟨a, vs, rfl, ha, rl⟩ := r1
        obtain ⟨b, us, rfl, hb, ru⟩ := r2
        exact .inr ⟨a, b, vs, us, rfl, rfl, SqL.of (s _ _ ha), SqL.of (s _ _ hb), by rw [rl.length, ru.length]; exact hn, q _ H Hf (Ext.refl s) rfl⟩
      · cases h
    · cases h
theorem ne_r2 {K : Fr} : R2d K (rEqP K true) dNe := by
  intro d e z h H Hf v u Q s r1 r2 q
  unfold dNe at h
  split at h
  · rename_i hh
    cases h
    have p1 := okN_plain 9 d hh.1
    have p2 := okN_plain 9 e hh.2
    exact ⟨toPy d, toPy e, Dp.mono s (Rp.dp 9 d v hh.1 r1), Dp.mono s (Rp.dp 9 e u hh.2 r2), p1.1, p2.1, by omega, q _ H Hf (Ext.refl s) rfl⟩
  · cases h
/-- the items of a list or tuple -/
def items : D → Option (List D)
  | .lst xs => some xs
  | .tup xs => some xs
  | _ => none
def inB (x : D) (xs : List D) : Bool := xs.any fun y => eqv y x
def dIn (x c : D) : Option D := (items c).bind fun xs => if okN 8 x = true ∧ xs.all (okN 8) = true then some (.bl (inB x xs)) else none
def dNotIn (x c : D) : Option D := (items c).bind fun xs => if okN 8 x = true ∧ xs.all (okN 8) = true then some (.bl (!inB x xs)) else none
def rInP (K : Fr) (neg : Bool) : R2 := fun x y H Q => ∃ d ds, Dp K H x d ∧ (Dp K H y (.list ds) ∨ Dp K H y (.tuple ds)) ∧ d.plain = true ∧ PyData.plainAll ds = true ∧ d.depth ≤ 60 ∧ Q (.bl (if neg then !(ds.any fun z => PyData.eqv z d) else ds.any fun z => PyData.eqv z d)) H
theorem op_inP (hu : X.A.units + 64 < cLine) : OpR X (compareOp .In) (rInP X.K false) := by
  intro pins s σ H x y v u Q I rx ry h
  obtain ⟨d, ds, hd, he, pd, pe, hl, q⟩ := h
  obtain ⟨as, r1⟩ := L2.Dp.reads I d x v hd rx
  rcases he with he | he
  · obtain ⟨bs, r2⟩ := L2.Dp.reads I (.list ds) y u he ry
    exact SeqAt.in_list_data r2 r1 pe pd (by have := Nat.min_le_right (PyData.depthAll ds) d.depth; omega) ⟨.bl _, H, I, rfl, q⟩
  · obtain ⟨bs, r2⟩ := L2.Dp.reads I (.tuple ds) y u he ry
    exact SeqAt.in_tuple_data r2 r1 pe pd (by have := Nat.min_le_right (PyData.depthAll ds) d.depth; omega) ⟨.bl _, H, I, rfl, q⟩
theorem op_notInP (hu : X.A.units + 64 < cLine) : OpR X (compareOp .NotIn) (rInP X.K true) := by
  intro pins s σ H x y v u Q I rx ry h
  obtain ⟨d, ds, hd, he, pd, pe, hl, q⟩ := h
  obtain ⟨as, r1⟩ := L2.Dp.reads I d x v hd rx
  rcases he with he | he
  · obtain ⟨bs, r2⟩ := L2.Dp.reads I (.list ds) y u he ry
    exact SeqAt.notIn_list_data r2 r1 pe pd (by have := Nat.min_le_right (PyData.depthAll ds) d.depth; omega) ⟨.bl _, H, I, rfl, q⟩
  · obtain ⟨bs, r2⟩ := L2.Dp.reads I (.tuple ds) y u he ry
    exact SeqAt.notIn_tuple_data r2 r1 pe pd (by have := Nat.min_le_right (PyData.depthAll ds) d.depth; omega) ⟨.bl _, H, I, rfl, q⟩
theorem in_core {K : Fr} {H Hf : Hp} {c : D} {xs : List D} {u : V} (s : Same Hf H) (e : items c = some xs) (h : xs.all (okN 8) = true) (r : Rp K Hf c u) : Dp K H u (.list (toPyL xs)) ∨ Dp K H u (.tuple (toPyL xs)) := by
  cases c with
  | lst ys => cases e; exact .inl (Dp.mono s (Rp.dp 9 (.lst xs) u h r))
  | tup ys => cases e; exact .inr (Dp.mono s (Rp.dp 9 (.tup xs) u h r))
  | _ => cases e
theorem inB_py (x : D) (xs : List D) : inB x xs = (toPyL xs).any fun z => PyData.eqv z (toPy x) := by
  rw [toPyL_map, List.any_map]; rfl
theorem in_r2 {K : Fr} : R2d K (rInP K false) dIn := by
  intro d e z h H Hf v u Q s r1 r2 q
  obtain ⟨xs, e1, e2⟩ := Option.bind_eq_some_iff.mp h
  split at e2
  · rename_i hh
    cases e2
    have p1 := okN_plain 8 d hh.1
    have p2 := okN_plainL 8 xs hh.2
    exact ⟨toPy d, toPyL xs, Dp.mono s (Rp.dp 8 d v hh.1 r1), in_core s e1 hh.2 r2, p1.1, p2.1, by omega, q _ H Hf (Ext.refl s) (by rw [inB_py]; rfl)⟩
  · cases e2
theorem notIn_r2 {K : Fr} : R2d K (rInP K true) dNotIn := by
  intro d e z h H Hf v u Q s r1 r2 q
  obtain ⟨xs, e1, e2⟩ := Option.bind_eq_some_iff.mp h
  split at e2
  · rename_i hh
    cases e2
    have p1 := okN_plain 8 d hh.1
    have p2 := okN_plainL 8 xs hh.2
    exact ⟨toPy d, toPyL xs, Dp.mono s (Rp.dp 8 d v hh.1 r1), in_core s e1 hh.2 r2, p1.1, p2.1, by omega, q _ H Hf (Ext.refl s) (by rw [inB_py]; rfl)⟩
  · cases e2

/-! ### ints -/
def dI (g : Int → Int → D) : D → D → Option D
  | .int i, .int j => some (g i j)
  | _, _ => none
theorem int_r2 {K : Fr} {gv : Int → Int → V} {g : Int → Int → D} (h : ∀ i j (H : Hp), Rp K H (g i j) (gv i j)) : R2d K (rI0 gv) (dI g) := by
  intro d e z hz H Hf v u Q s r1 r2 q
  unfold dI at hz
  split at hz
  · rename_i i j
    cases hz
    cases (show v = .int i from r1)
    cases (show u = .int j from r2)
    exact ⟨i, j, rfl, rfl, q _ H Hf (Ext.refl s) (h i j Hf)⟩
  · cases hz
abbrev dSub := dI fun i j => .int (i - j)
abbrev dLt := dI fun i j => .bl (decide (i < j))
abbrev dLe := dI fun i j => .bl (decide (i ≤ j))
abbrev dGt := dI fun i j => .bl (decide (j < i))
abbrev dGe := dI fun i j => .bl (decide (j ≤ i))
theorem sub_r2 {K : Fr} : R2d K (rI0 fun i j => .int (i - j)) dSub := int_r2 fun _ _ _ => rfl
theorem lt_r2 {K : Fr} : R2d K (rI0 fun i j => .bl (decide (i < j))) dLt := int_r2 fun _ _ _ => rfl
theorem le_r2 {K : Fr} : R2d K (rI0 fun i j => .bl (decide (i ≤ j))) dLe := int_r2 fun _ _ _ => rfl
theorem gt_r2 {K : Fr} : R2d K (rI0 fun i j => .bl (decide (j < i))) dGt := int_r2 fun _ _ _ => rfl
theorem ge_r2 {K : Fr} : R2d K (rI0 fun i j => .bl (decide (j ≤ i))) dGe := int_r2 fun _ _ _ => rfl
def dMod : D → D → Option D
  | .int i, .int j => if 0 < j then some (.int (i % j)) else none
  | _, _ => none
def dFdiv : D → D → Option D
  | .int i, .int j => if 0 < j ∧ j < 2 ^ 64 then some (.int (i / j)) else none
  | _, _ => none
theorem mod_r2 {K : Fr} : R2d K (rI (fun _ j => 0 < j) fun i j => .int (i % j)) dMod := by
  intro d e z hz H Hf v u Q s r1 r2 q
  unfold dMod at hz
  split at hz
  · rename_i i j
    split at hz
    · cases hz
      cases (show v = .int i from r1)
      cases (show u = .int j from r2)
      exact ⟨i, j, rfl, rfl, by assumption, q _ H Hf (Ext.refl s) rfl⟩
    · cases hz
  · cases hz
theorem fdiv_r2 {K : Fr} : R2d K (rI CDivW fun i j => .int (i / j)) dFdiv := by
  intro d e z hz H Hf v u Q s r1 r2 q
  unfold dFdiv at hz
  split at hz
  · rename_i i j
    split at hz
    · rename_i hj
      cases hz
      cases (show v = .int i from r1)
      cases (show u = .int j from r2)
      refine ⟨i, j, rfl, rfl, wide_div (b := 64) hj.1 ?_ (by decide) (by decide), q _ H Hf (Ext.refl s) rfl⟩
      have : j < 2 ^ 64 := hj.2
      omega
    · cases hz
  · cases hz
/-- a text, once or not at all -/
def rRepS : R2 := fun x y H Q => ∃ z k, x = .str z ∧ y = .int k ∧ (k = 0 ∨ k = 1) ∧ Q (.str (if k = 1 then z else Str.empty)) H
theorem op_repS {X : Cx} : OpR X (binaryOp .Mult) rRepS := by
  rintro pins s σ H x y v u Q I rx ry ⟨z, k, rfl, rfl, hk, q⟩
  obtain ⟨t, rfl⟩ := rx
  obtain ⟨t', rfl⟩ := ry
  rcases hk with rfl | rfl
  · exact PySem.P.mul_str_none (by decide) (by decide) ⟨.str Str.empty, H, I.tok _, ⟨_, rfl⟩, q⟩
  · exact PySem.P.mul_str (by decide) (fun _ h => by simp at h) (fun _ h => by simp at h) ⟨.str z, H, I, ⟨_, rfl⟩, q⟩
/-- ints; a list and an int; -/
def dMul : D → D → Option D
  | .int i, .int j => if (-(2 ^ 64) < i ∧ i < 2 ^ 64) ∨ (-(2 ^ 64) < j ∧ j < 2 ^ 64) then some (.int (i * j)) else none
  | .lst xs, .int k => if 0 ≤ k ∧ k < 1000 ∧ xs.length ≤ 1000 then some (.lst (List.replicate k.toNat xs).flatten) else none
  | .str z, .int k => if k = 0 ∨ k = 1 then some (.str (if k = 1 then z else Str.empty)) else none
  | _, _ => none
theorem RpL.rep {K : Fr} {H : Hp} {xs : List D} {vs : List V} (r : RpL K H xs vs) : ∀ n : Nat, RpL K H (List.replicate n xs).flatten (List.replicate n vs).flatten
  | 0 => rfl
  | n + 1 => by rw [List.replicate_succ, List.replicate_succ, List.flatten_cons, List.flatten_cons]; exact r.append (r.rep n)
theorem new_lst {K : Fr} {H Hf : Hp} {xs : List D} {vs : List V} {Q : VK} (s : Same Hf H) (r : RpL K Hf xs vs) (q : ∀ w H' Hf', Ext H Hf H' Hf' → Rp K Hf' (.lst xs) w → Q w H') : ∀ p, H p = none → Q (.ref p) (upd H p (.lst vs)) := fun p hp => by
  have x : Ext H Hf (upd H p (.lst vs)) (upd Hf p (.lst vs)) := Ext.new s hp
  exact q _ _ _ x ⟨p, vs, rfl, upd_same, r.mono x.2.1⟩
theorem new_tup {K : Fr} {H Hf : Hp} {xs : List D} {vs : List V} {Q : VK} (s : Same Hf H) (r : RpL K Hf xs vs) (q : ∀ w H' Hf', Ext H Hf H' Hf' → Rp K Hf' (.tup xs) w → Q w H') : ∀ p, H p = none → Q (.ref p) (upd H p (.tup vs)) := fun p hp => by
  have x : Ext H Hf (upd H p (.tup vs)) (upd Hf p (.tup vs)) := Ext.new s hp
  exact q _ _ _ x ⟨p, vs, rfl, upd_same, r.mono x.2.1⟩
theorem mul_r2 {K : Fr} : R2d K (fun x y H Q => rI CMul (fun i j => .int (i * j)) x y H Q ∨ rRep x y H Q ∨ rRepS x y H Q) dMul := by
  intro d e z hz H Hf v u Q s r1 r2 q
  unfold dMul at hz
  split at hz
  · rename_i i j
    split at hz
    · rename_i hj
      cases hz
      cases (show v = .int i from r1)
      cases (show u = .int j from r2)
      exact .inl ⟨i, j, rfl, rfl, hj, q _ H Hf (Ext.refl s) rfl⟩
    · cases hz
  · rename_i xs k
    split at hz
    · rename_i hk
      cases hz
      obtain ⟨a, vs, rfl, ha, r⟩ := r1
      cases (show u = .int k from r2)
      refine .inr (.inl ⟨a, k, vs, rfl, rfl, s _ _ ha, by omega, by omega, ?_, new_lst s (r.rep _) q⟩)
      rw [r.length, sizeLine_eq]
      have h1 : k.toNat ≤ 1000 := by omega
      exact Nat.le_trans (Nat.mul_le_mul hk.2.2 h1) (by decide)
    · cases hz
  · rename_i z' k
    split at hz
    · rename_i hk
      cases hz
      cases (show v = .str z' from r1)
      cases (show u = .int k from r2)
      exact .inr (.inr ⟨z', k, rfl, rfl, hk, q _ H Hf (Ext.refl s) rfl⟩)
    · cases hz
  · cases hz
theorem op_mulA : OpR X (binaryOp .Mult) (fun x y H Q => rI CMul (fun i j => .int (i * j)) x y H Q ∨ rRep x y H Q ∨ rRepS x y H Q) := op_mul.or (op_rep.or op_repS)
def dPow : D → D → Option D
  | .int i, .int j => if 0 ≤ j ∧ j ≤ 100 ∧ i.natAbs < 2 ^ 64 then some (.int (i ^ j.toNat)) else none
  | _, _ => none
theorem pow_r2 {K : Fr} : R2d K (rI CPow fun i j => .int (i ^ j.toNat)) dPow := by
  intro d e z hz H Hf v u Q s r1 r2 q
  unfold dPow at hz
  split at hz
  · rename_i i j
    split at hz
    · rename_i hj
      cases hz
      cases (show v = .int i from r1)
      cases (show u = .int j from r2)
      exact ⟨i, j, rfl, rfl, ⟨hj.1, by omega, hj.2.2⟩, q _ H Hf (Ext.refl s) rfl⟩
    · cases hz
  · cases hz
/-- +: ints, lists, tuples, texts -/
def dAdd : D → D → Option D
  | .int i, .int j => some (.int (i + j))
  | .lst xs, .lst ys => if xs.length + ys.length ≤ 1000000 then some (.lst (xs ++ ys)) else none
  | .tup xs, .tup ys => if xs.length + ys.length ≤ 1000000 then some (.tup (xs ++ ys)) else none
  | .str x, .str y => if x.length + y.length ≤ 1000000 then some (.str (x ++ y)) else none
  | _, _ => none
def rAddS : R2 := fun x y H Q => ∃ i j, x = .str i ∧ y = .str j ∧ i.length + j.length ≤ sizeLine ∧ Q (.str (i ++ j)) H
def rAddA (K : Fr) : R2 := fun x y H Q => rI0 (fun i j => .int (i + j)) x y H Q ∨ rCat x y H Q ∨ rCatA K x y H Q ∨ rAddS x y H Q
theorem op_addA : OpR X (binaryOp .Add) (rAddA X.K) := op_add.or (op_cat.or (op_catA.or op_add_str))
theorem million {n : Nat} (h : n ≤ 1000000) : n ≤ sizeLine := by rw [sizeLine_eq]; omega
theorem RpL.nil_iff {K : Fr} {H : Hp} {xs : List D} {vs : List V} (r : RpL K H xs vs) : vs = [] ↔ xs = [] := by
  have := r.length
  constructor
  · intro e; subst e; exact List.eq_nil_of_length_eq_zero (by simpa using this.symm)
  · intro e; subst e; exact List.eq_nil_of_length_eq_zero (by simpa using this)
theorem add_r2 {K : Fr} : R2d K (rAddA K) dAdd := by
  intro d e z hz H Hf v u Q s r1 r2 q
  unfold dAdd at hz
  split at hz
  · rename_i i j
    cases hz
    cases (show v = .int i from r1)
    cases (show u = .int j from r2)
    exact .inl ⟨i, j, rfl, rfl, q _ H Hf (Ext.refl s) rfl⟩
  · rename_i xs ys
    split at hz
    · rename_i hl
      cases hz
      obtain ⟨a, vs, rfl, ha, ra⟩ := r1
      obtain ⟨b, us, rfl, hb, rb⟩ := r2
      exact .inr (.inl ⟨a, b, vs, us, rfl, rfl, s _ _ ha, s _ _ hb, by rw [ra.length, rb.length]; exact million hl, new_lst s (ra.append rb) q⟩)
    · cases hz
  · rename_i xs ys
    split at hz
    · rename_i hl
      cases hz
      obtain ⟨a, vs, rfl, ha, ra⟩ := r1
      obtain ⟨b, us, rfl, hb, rb⟩ := r2
      refine .inr (.inr (.inl ⟨a, b, vs, us, rfl, rfl, SqT.of (s _ _ ha), SqT.of (s _ _ hb), by rw [ra.length, rb.length]; exact million hl, fun e => ?_, fun _ e => ?_, fun _ _ => new_tup s (ra.append rb) q⟩))
      · have e' := ra.nil_iff.mp e
        subst e'
        exact q _ H Hf (Ext.refl s) ⟨b, us, rfl, hb, rb⟩
      · have e' := rb.nil_iff.mp e
        subst e'
        exact q _ H Hf (Ext.refl s) ⟨a, vs, rfl, ha, by rw [List.append_nil]; exact ra⟩
    · cases hz
  · rename_i x y
    split at hz
    · rename_i hl
      cases hz
      cases (show v = .str x from r1)
      cases (show u = .str y from r2)
      exact .inr (.inr (.inr ⟨x, y, rfl, rfl, million hl, q _ H Hf (Ext.refl s) rfl⟩))
    · cases hz
  · cases hz
/-- is, is not: None, truth values -/
def isNon : D → Bool
  | .non => true
  | _ => false
theorem isNon_v {K : Fr} {H : Hp} {d : D} {v : V} (r : Rp K H d v) : decide (v = .non) = isNon d := by
  cases d with
  | non => cases (show v = .non from r); rfl
  | bl b => cases (show v = .bl b from r); rfl
  | int b => cases (show v = .int b from r); rfl
  | str b => cases (show v = .str b from r); rfl
  | lst _ => obtain ⟨a, vs, rfl, _⟩ := r; rfl
  | tup _ => obtain ⟨a, vs, rfl, _⟩ := r; rfl
  | dct _ => obtain ⟨a, rfl, _⟩ := r; rfl
  | emp => obtain ⟨a, rfl, _⟩ := r; rfl
  | scr _ => obtain ⟨a, rfl, _⟩ := r; rfl
def dIs : D → D → Option D
  | d, .non => some (.bl (isNon d))
  | .bl a, .bl b => some (.bl (decide (a = b)))
  | _, _ => none
def dIsNot : D → D → Option D
  | d, .non => some (.bl (!isNon d))
  | .bl a, .bl b => some (.bl (!decide (a = b)))
  | _, _ => none
def rIsA : R2 := fun x y H Q => (y = .non ∧ Q (.bl (decide (x = .non))) H) ∨ rIsB x y H Q
def rIsNotA : R2 := fun x y H Q => (y = .non ∧ Q (.bl (!decide (x = .non))) H) ∨ rNotB x y H Q
theorem op_isA : OpR X (compareOp .Is) rIsA := op_isN.or op_isBl
theorem op_isNotA : OpR X (compareOp .IsNot) rIsNotA := op_notN.or op_notBl
theorem is_r2 {K : Fr} : R2d K rIsA dIs := by
  intro d e z hz H Hf v u Q s r1 r2 q
  unfold dIs at hz
  split at hz
  · cases hz
    cases (show u = .non from r2)
    exact .inl ⟨rfl, q _ H Hf (Ext.refl s) (by show V.bl _ = V.bl _; rw [isNon_v r1])⟩
  · rename_i a b _
    cases hz
    cases (show v = .bl _ from r1)
    cases (show u = .bl _ from r2)
    exact .inr ⟨_, _, rfl, rfl, q _ H Hf (Ext.refl s) rfl⟩
  · cases hz
theorem isNot_r2 {K : Fr} : R2d K rIsNotA dIsNot := by
  intro d e z hz H Hf v u Q s r1 r2 q
  unfold dIsNot at hz
  split at hz
  · cases hz
    cases (show u = .non from r2)
    exact .inl ⟨rfl, q _ H Hf (Ext.refl s) (by show V.bl _ = V.bl _; rw [isNon_v r1])⟩
  · rename_i a b _
    cases hz
    cases (show v = .bl _ from r1)
    cases (show u = .bl _ from r2)
    exact .inr ⟨_, _, rfl, rfl, q _ H Hf (Ext.refl s) rfl⟩
  · cases hz
/-- a chain -/
theorem tChain_of {K : Fr} {f g k : En → Option D} {h h' : D → D → Option D} {r r' : R2} (hr : R2d K r h) (hr' : R2d K r' h') {σ : L2.St} {H : Hp} {Q : VK} (q : tE K (eChain h h' f g k) σ H Q) :
    tChain r r' (tE K f) (tE K g) (tE K k) σ H Q := by
  obtain ⟨Γ, Hf, z, w, e1, q⟩ := q
  obtain ⟨d, e2, e3⟩ := Option.bind_eq_some_iff.mp e1
  obtain ⟨e, e4, e5⟩ := Option.bind_eq_some_iff.mp e3
  obtain ⟨y, e6, e7⟩ := Option.bind_eq_some_iff.mp e5
  obtain ⟨c, e8, e9⟩ := Option.bind_eq_some_iff.mp e7
  have ey := isBl_eq e8
  subst ey
  refine ⟨Γ, Hf, d, w, e2, fun v H1 Hf1 x1 r1 => ?_⟩
  refine ⟨Γ, Hf1, e, w.ext x1, e4, fun u H2 Hf2 x2 r2 => ?_⟩
  refine hr d e _ e6 H2 Hf2 v u _ x2.2.2.1 (r1.mono x2.2.1) r2 fun w' H3 Hf3 x3 r3 => ⟨c, r3, ?_⟩
  cases c with
  | true =>
    rw [if_pos rfl] at e9 ⊢
    obtain ⟨u2, e10, e11⟩ := Option.bind_eq_some_iff.mp e9
    refine ⟨Γ, Hf3, u2, w.ext ((x1.trans x2).trans x3), e10, fun t H4 Hf4 x4 r4 => ?_⟩
    exact hr' e u2 z e11 H4 Hf4 u t Q x4.2.2.1 (r2.mono (x3.2.1.trans x4.2.1)) r4 fun o H5 Hf5 x5 r5 => q o H5 Hf5 ((((x1.trans x2).trans x3).trans x4).trans x5) r5
  | false =>
    rw [if_neg Bool.false_ne_true] at e9 ⊢
    cases e9
    exact q _ H3 Hf3 ((x1.trans x2).trans x3) rfl
theorem ev_chain {op op' : CmpOp} {a b c : Expr} {pos : Pos} {r r' : R2} {h h' : D → D → Option D} {f g k : En → Option D} (ho : OpR X (compareOp op) r) (hr : R2d X.K r h) (ho' : OpR X (compareOp op') r') (hr' : R2d X.K r' h') (ha : EV X a f) (hb : EV X b g) (hc : EV X c k)
    (h1 : PE X (.Compare a [op, op'] [b, c] pos) (tChain r r' (tE X.K f) (tE X.K g) (tE X.K k))) : EV X (.Compare a [op, op'] [b, c] pos) (eChain h h' f g k) :=
  ev_of h1 fun _ _ _ q => tChain_of hr hr' q

/-! ### subscripts -/
def dIx : D → D → Option D
  | .lst xs, .int i => atI xs i
  | .tup xs, .int i => atI xs i
  | .scr ns, .int i => (atI ns i).map D.int
  | _, _ => none
theorem RpL.atI {K : Fr} {H : Hp} {xs : List D} {vs : List V} {i : Int} {d : D} (r : RpL K H xs vs) (h : L2.atI xs i = some d) : ∃ v, L2.atI vs i = some v ∧ Rp K H d v := by
  unfold L2.atI at h ⊢
  rw [r.length]
  obtain ⟨j, e1, e2⟩ := Option.bind_eq_some_iff.mp h
  obtain ⟨v, e3, e4⟩ := r.get e2
  exact ⟨v, by rw [e1]; exact e3, e4⟩
theorem ix_r2 {K : Fr} : R2d K (rIx K) dIx := by
  intro d e z hz H Hf v u Q s r1 r2 q
  unfold dIx at hz
  split at hz
  · rename_i xs i
    obtain ⟨a, vs, rfl, ha, r⟩ := r1
    cases (show u = .int i from r2)
    obtain ⟨w, h1, h2⟩ := r.atI hz
    exact .inl ⟨a, vs, i, w, rfl, rfl, SqL.of (s _ _ ha), h1, q w H Hf (Ext.refl s) h2⟩
  · rename_i xs i
    obtain ⟨a, vs, rfl, ha, r⟩ := r1
    cases (show u = .int i from r2)
    obtain ⟨w, h1, h2⟩ := r.atI hz
    exact .inr (.inl ⟨a, vs, i, w, rfl, rfl, SqT.of (s _ _ ha), h1, q w H Hf (Ext.refl s) h2⟩)
  · rename_i ns i
    obtain ⟨a, rfl, ha⟩ := r1
    cases (show u = .int i from r2)
    obtain ⟨n, e1, e2⟩ := Option.map_eq_some_iff.mp hz
    subst e2
    refine .inl ⟨a, _, i, .int n, rfl, rfl, s.seq ha, ?_, q _ H Hf (Ext.refl s) rfl⟩
    unfold L2.atI at e1 ⊢
    obtain ⟨j, e3, e4⟩ := Option.bind_eq_some_iff.mp e1
    rw [List.length_map, e3]
    show (ns.map V.int)[j]? = _
    rw [List.getElem?_map, e4]
    rfl
  · cases hz
theorem ev_ix {a b : Expr} {pos : Pos} {f g : En → Option D} (ha : EV X a f) (hb : EV X b g) (hs : PlainIx b := by exact fun _ _ => rfl) : EV X (.Subscript a b pos) (eOp dIx f g) :=
  ev_of (pe_ix ix_seq ha.pe hb.pe hs) fun _ _ _ q => tOp_of ix_r2 q
/-- slices of a list or of the script -/
def cutD {α : Type} (xs : List α) (lo hi : Option Int) : List α := (xs.drop (HT.sIx xs.length 0 lo)).take (HT.sIx xs.length xs.length hi - HT.sIx xs.length 0 lo)
def lsOf : D → Option (List D)
  | .lst xs => some xs
  | .scr ns => some (ns.map D.int)
  | _ => none
def isInt : D → Option Int
  | .int i => some i
  | _ => none
theorem isInt_eq {d : D} {i : Int} (h : isInt d = some i) : d = .int i := by
  cases d <;> first | (cases h; rfl) | cases h
abbrev EO := En → Option (Option Int)
def oNo : EO := fun _ => some none
def oE (f : En → Option D) : EO := fun Γ => (f Γ).bind fun d => (isInt d).map some
def fSl (f : En → Option D) (lo hi : EO) : En → Option (List D) := fun Γ => (f Γ).bind fun d => (lsOf d).bind fun xs => (lo Γ).bind fun l => (hi Γ).map fun h => cutD xs l h
def tO (K : Fr) (o : EO) : TO := fun σ H Q => ∃ Γ Hf z, W0 K Γ σ H Hf ∧ o Γ = some z ∧ ∀ H' Hf', Ext H Hf H' Hf' → Q z H'
structure OV (X : Cx) (e : Option Expr) (o : EO) : Prop where
  po : PO X e (tO X.K o)
theorem PO.imp {e : Option Expr} {t t' : TO} (h : PO X e t) (i : ∀ σ H Q, t' σ H Q → t σ H Q) : PO X e t' := ⟨fun pins s σ H Q I q => h.run pins s σ H Q I (i _ _ _ q)⟩
theorem ov_no : OV X none oNo := ⟨PO.imp po_none fun σ H Q ⟨Γ, Hf, z, w, e, q⟩ => by cases e; exact q H Hf (Ext.refl w.sub)⟩
theorem ov_e {e : Expr} {f : En → Option D} (h : EV X e f) : OV X (some e) (oE f) := ⟨PO.imp (po_some h.pe) fun σ H Q ⟨Γ, Hf, z, w, e, q⟩ => by
  obtain ⟨d, e1, e2⟩ := Option.bind_eq_some_iff.mp e
  obtain ⟨i, e3, e4⟩ := Option.map_eq_some_iff.mp e2
  subst e4
  have := isInt_eq e3
  subst this
  exact ⟨Γ, Hf, _, w, e1, fun v H' Hf' x r => ⟨i, r, q H' Hf' x⟩⟩⟩
theorem fv_slice {a : Expr} {lo hi : Option Expr} {p2 pos : Pos} {f : En → Option D} {l h : EO} (ha : EV X a f) (hl : OV X lo l) (hh : OV X hi h) : FV X (.Subscript a (.Slice lo hi none p2) pos) (fSl f l h) := by
  refine ⟨PE.imp (pe_slice sl_list ha.pe hl.po hh.po) fun σ H Q ⟨Γ, Hf, z, w, e, q⟩ => ?_⟩
  obtain ⟨d, e1, e2⟩ := Option.bind_eq_some_iff.mp e
  obtain ⟨xs, e3, e4⟩ := Option.bind_eq_some_iff.mp e2
  obtain ⟨lo', e5, e6⟩ := Option.bind_eq_some_iff.mp e4
  obtain ⟨hi', e7, e8⟩ := Option.map_eq_some_iff.mp e6
  subst e8
  refine ⟨Γ, Hf, d, w, e1, fun v H1 Hf1 x1 r1 => ⟨Γ, Hf1, lo', w.ext x1, e5, fun H2 Hf2 x2 => ⟨Γ, Hf2, hi', w.ext (x1.trans x2), e7, fun H3 Hf3 x3 => ?_⟩⟩⟩
  have r3 := r1.mono (x2.2.1.trans x3.2.1)
  have s3 : Same Hf3 H3 := x3.2.2.1
  have fin : ∀ (b : Addr) (vs : List V), v = .ref b → SqL X.K H3 b vs → RpL X.K Hf3 xs vs → ∃ a xs, v = .ref a ∧ SqL X.K H3 a xs ∧ ∀ p, H3 p = none → Q (.ref p) (upd H3 p (.lst (cutV xs lo' hi'))) := fun b vs ev hs rl => by
    refine ⟨b, vs, ev, hs, fun p hp => ?_⟩
    have hfp := s3.free hp
    refine q p _ _ Hf3 (((x1.trans x2).trans x3).trans ⟨same_upd hp, Same.refl _, fun c o e => by rw [upd_ne (ne_of_none e hfp)]; exact s3 _ _ e, fun c => ?_⟩) ((x1.trans x2).trans x3 |>.1.free hp) upd_same hfp ?_
    · cases e : Hf3 c with
      | none => exact .inl rfl
      | some _ => exact .inr (.inl (fun q => nomatch q))
    · unfold cutD cutV
      rw [rl.length]
      exact (rl.drop _).take _
  cases d with
  | lst ys => cases e3; obtain ⟨b, vs, ev, hb, rl⟩ := r3; exact fin b vs ev (SqL.of (s3 _ _ hb)) rl
  | scr ns => cases e3; obtain ⟨b, ev, hb⟩ := r3; exact fin b _ ev (s3.seq hb) RpL.ints
  | _ => cases e3
def fRev (f : En → Option D) : En → Option (List D) := fun Γ => (f Γ).bind fun d => (lsOf d).map List.reverse
theorem fresh_of {K : Fr} {H Hf : Hp} {Γ : En} {σ : L2.St} {p : Addr} {ds : List D} {vs : List V} {Q : VK} {H0 Hf0 : Hp} (s3 : Same Hf H) (x : Ext H0 Hf0 H Hf) (hp : H p = none) (r : RpL K Hf ds vs)
    (q : ∀ a vs H' Hf', Ext H0 Hf0 H' Hf' → H0 a = none → H' a = some (.lst vs) → Hf' a = none → RpL K Hf' ds vs → Q (.ref a) H') : Q (.ref p) (upd H p (.lst vs)) := by
  have hfp := s3.free hp
  refine q p _ _ Hf (x.trans ⟨same_upd hp, Same.refl _, fun c o e => by rw [upd_ne (ne_of_none e hfp)]; exact s3 _ _ e, fun c => ?_⟩) (x.1.free hp) upd_same hfp r
  cases e : Hf c with
  | none => exact .inl rfl
  | some _ => exact .inr (.inl (fun q => nomatch q))
theorem fv_rev {e : Expr} {k : Nat} {p1 p2 p3 pos : Pos} {f : En → Option D} (ha : EV X e f) : FV X (.Subscript e (.Slice none none (some (.UnaryOp .USub (.Constant (.int 1) k p1) p2)) p3) pos) (fRev f) := by
  refine ⟨PE.imp (pe_revL ha.pe) fun σ H Q ⟨Γ, Hf, z, w, e, q⟩ => ?_⟩
  obtain ⟨d, e1, e2⟩ := Option.bind_eq_some_iff.mp e
  obtain ⟨xs, e3, e4⟩ := Option.map_eq_some_iff.mp e2
  subst e4
  refine ⟨Γ, Hf, d, w, e1, fun v H1 Hf1 x1 r1 => ?_⟩
  cases d with
  | lst ys => cases e3; obtain ⟨b, vs, ev, hb, rl⟩ := r1; exact ⟨b, vs, ev, SqL.of (x1.2.2.1 _ _ hb), fun p hp => fresh_of (Γ := Γ) (σ := σ) x1.2.2.1 x1 hp rl.reverse q⟩
  | scr ns => cases e3; obtain ⟨b, ev, hb⟩ := r1; exact ⟨b, _, ev, x1.2.2.1.seq hb, fun p hp => fresh_of (Γ := Γ) (σ := σ) x1.2.2.1 x1 hp (RpL.reverse RpL.ints) q⟩
  | _ => cases e3
def fLst (g : En → Option (List D)) : En → Option (List D) := fun Γ => (g Γ).bind fun ds => if ds.length ≤ 1000 then some ds else none
theorem fv_lst {es : List Expr} {pos : Pos} {g : En → Option (List D)} (h : AV X es g) : FV X (.List es pos) (fLst g) := by
  refine ⟨PE.imp (pe_lst h.pa) fun σ H Q ⟨Γ, Hf, z, w, e1, q⟩ => ?_⟩
  obtain ⟨ds, e2, e3⟩ := Option.bind_eq_some_iff.mp e1
  split at e3
  · cases e3
    rename_i hl
    exact ⟨Γ, Hf, z, w, e2, fun vs H1 Hf1 x r => ⟨by rw [r.length]; exact line_of hl, fun p hp => fresh_of (Γ := Γ) (σ := σ) x.2.2.1 x hp r q⟩⟩
  · cases e3
end
end DL

/-! DL4: built-in calls on data, owned slots, defs. -/
namespace DL
open PySem PySem.Spec PyProof.Rows L2

/-! ### lists of ints, of truth values, of pairs -/
def asInts : List D → Option (List Int)
  | [] => some []
  | .int i :: r => (asInts r).map (i :: ·)
  | _ => none
def asBls : List D → Option (List Bool)
  | [] => some []
  | .bl i :: r => (asBls r).map (i :: ·)
  | _ => none
def encP (p : Int × Int) : D := .tup [.int p.1, .int p.2]
def asPairs : List D → Option (List (Int × Int))
  | [] => some []
  | .tup [.int i, .int j] :: r => (asPairs r).map ((i, j) :: ·)
  | _ => none
theorem asInts_eq : ∀ {ds : List D} {ns : List Int}, asInts ds = some ns → ds = ns.map D.int
  | [], _, h => by cases h; rfl
  | .int i :: r, _, h => by
    obtain ⟨m, e1, e2⟩ := Option.map_eq_some_iff.mp (show (asInts r).map (i :: ·) = _ from h)
    subst e2
    rw [asInts_eq e1]; rfl
  | .non :: _, _, h => by cases h
  | .bl _ :: _, _, h => by cases h
  | .str _ :: _, _, h => by cases h
  | .lst _ :: _, _, h => by cases h
  | .tup _ :: _, _, h => by cases h
  | .dct _ :: _, _, h => by cases h
  | .emp :: _, _, h => by cases h
  | .scr _ :: _, _, h => by cases h
theorem asBls_eq : ∀ {ds : List D} {ns : List Bool}, asBls ds = some ns → ds = ns.map D.bl
  | [], _, h => by cases h; rfl
  | .bl i :: r, _, h => by
    obtain ⟨m, e1, e2⟩ := Option.map_eq_some_iff.mp (show (asBls r).map (i :: ·) = _ from h)
    subst e2
    rw [asBls_eq e1]; rfl
  | .non :: _, _, h => by cases h
  | .int _ :: _, _, h => by cases h
  | .str _ :: _, _, h => by cases h
  | .lst _ :: _, _, h => by cases h
  | .tup _ :: _, _, h => by cases h
  | .dct _ :: _, _, h => by cases h
  | .emp :: _, _, h => by cases h
  | .scr _ :: _, _, h => by cases h
theorem asPairs_eq : ∀ (ds : List D) {ps : List (Int × Int)}, asPairs ds = some ps → ds = ps.map encP := by
  intro ds
  induction ds with
  | nil => intro ps h; cases h; rfl
  | cons d r ih =>
    intro ps h
    unfold asPairs at h
    split at h
    · rename_i e
      cases e
    · rename_i i j r' e
      cases e
      obtain ⟨m, e1, e2⟩ := Option.map_eq_some_iff.mp h
      subst e2
      rw [ih e1]; rfl
    · cases h
theorem asInts_ints : ∀ ns : List Int, asInts (ns.map D.int) = some ns
  | [] => rfl
  | n :: ns => by rw [List.map_cons, asInts, asInts_ints ns]; rfl
theorem asBls_bls : ∀ ns : List Bool, asBls (ns.map D.bl) = some ns
  | [] => rfl
  | n :: ns => by rw [List.map_cons, asBls, asBls_bls ns]; rfl
theorem asPairs_pairs : ∀ ps : List (Int × Int), asPairs (ps.map encP) = some ps
  | [] => rfl
  | p :: ps => by
    rw [List.map_cons, encP, asPairs, asPairs_pairs ps]; rfl

def srt (ns : List Int) : List Int := ns.mergeSort fun a b => decide (a ≤ b)
theorem srt_perm (ns : List Int) : (srt ns).Perm ns := List.mergeSort_perm ns _
theorem srt_sorted (ns : List Int) : (srt ns).Pairwise (· ≤ ·) := by
  have := List.pairwise_mergeSort (le := fun a b : Int => decide (a ≤ b)) (by simp; omega) (by simp; omega) ns
  unfold srt
  simpa using this
theorem srt_uniq {ns ms : List Int} (p : ms.Perm ns) (s : ms.Pairwise (· ≤ ·)) : ms = srt ns :=
  List.Perm.eq_of_pairwise (fun a b _ _ h1 h2 => Int.le_antisymm h1 h2) s (srt_sorted ns) (p.trans (srt_perm ns).symm)
def leP (p q : Int × Int) : Bool := !SrtO.lexB q p
def srtP (ps : List (Int × Int)) : List (Int × Int) := ps.mergeSort leP
theorem leP_iff {p q : Int × Int} : leP p q = true ↔ p.1 < q.1 ∨ (p.1 = q.1 ∧ p.2 ≤ q.2) := by
  unfold leP SrtO.lexB
  split <;> simp <;> omega
theorem leP_tr (p q r : Int × Int) (h1 : leP p q = true) (h2 : leP q r = true) : leP p r = true := by
  rw [leP_iff] at *; omega
theorem leP_tot (p q : Int × Int) : (leP p q || leP q p) = true := by
  rw [Bool.or_eq_true, leP_iff, leP_iff]; omega
theorem srtP_perm (ps : List (Int × Int)) : (srtP ps).Perm ps := List.mergeSort_perm ps _
theorem srtP_sorted (ps : List (Int × Int)) : (srtP ps).Pairwise fun p q => leP p q = true := List.pairwise_mergeSort leP_tr leP_tot ps
theorem srtP_uniq {ps qs : List (Int × Int)} (p : qs.Perm ps) (s : qs.Pairwise fun p q => leP p q = true) : qs = srtP ps :=
  List.Perm.eq_of_pairwise (fun a b _ _ h1 h2 => by
    rw [leP_iff] at h1 h2
    exact Prod.ext (by omega) (by omega)) s (srtP_sorted ps) (p.trans (srtP_perm ps).symm)

/-! ### built-ins -/
section
variable {X : Cx}
theorem RpL.one_inv {K : Fr} {H : Hp} {d : D} {vs : List V} (r : RpL K H [d] vs) : ∃ v, vs = [v] ∧ Rp K H d v := by
  obtain ⟨v, t, rfl, h, e⟩ := r
  cases (show t = [] from e)
  exact ⟨v, rfl, h⟩
theorem RpL.two_inv {K : Fr} {H : Hp} {d e : D} {vs : List V} (r : RpL K H [d, e] vs) : ∃ v u, vs = [v, u] ∧ Rp K H d v ∧ Rp K H e u := by
  obtain ⟨v, t, rfl, h, r⟩ := r
  obtain ⟨u, rfl, h2⟩ := r.one_inv
  exact ⟨v, u, rfl, h, h2⟩
def dLen : List D → Option D
  | [.lst xs] => some (.int xs.length)
  | [.tup xs] => some (.int xs.length)
  | [.scr ns] => some (.int ns.length)
  | _ => none
theorem len_rl {K : Fr} : RLd K (fun xs H Q => ∃ p ys, xs = [.ref p] ∧ (SqL K H p ys ∨ SqT K H p ys) ∧ Q (.int ys.length) H) dLen := by
  intro ds z h H Hf vs Q s r q
  unfold dLen at h
  split at h
  · cases h
    obtain ⟨v, rfl, a, us, rfl, ha, rl⟩ := r.one_inv
    exact ⟨a, us, rfl, .inl (SqL.of (s _ _ ha)), by rw [rl.length]; exact q _ H Hf (Ext.refl s) rfl⟩
  · cases h
    obtain ⟨v, rfl, a, us, rfl, ha, rl⟩ := r.one_inv
    exact ⟨a, us, rfl, .inr (SqT.of (s _ _ ha)), by rw [rl.length]; exact q _ H Hf (Ext.refl s) rfl⟩
  · cases h
    obtain ⟨v, rfl, a, rfl, ha⟩ := r.one_inv
    exact ⟨a, _, rfl, .inl (s.seq ha), by rw [List.length_map]; exact q _ H Hf (Ext.refl s) rfl⟩
  · cases h
def dMax2 : List D → Option D
  | [.int i, .int j] => some (.int (if j > i then j else i))
  | _ => none
def dMin2 : List D → Option D
  | [.int i, .int j] => some (.int (if j < i then j else i))
  | _ => none
theorem max2_rl {K : Fr} : RLd K (fun xs H Q => ∃ i j, xs = [.int i, .int j] ∧ Q (.int (if j > i then j else i)) H) dMax2 := by
  intro ds z h H Hf vs Q s r q
  unfold dMax2 at h
  split at h
  · cases h
    obtain ⟨v, u, rfl, h1, h2⟩ := r.two_inv
    exact ⟨_, _, by rw [show v = _ from h1, show u = _ from h2], q _ H Hf (Ext.refl s) rfl⟩
  · cases h
theorem min2_rl {K : Fr} : RLd K (fun xs H Q => ∃ i j, xs = [.int i, .int j] ∧ Q (.int (if j < i then j else i)) H) dMin2 := by
  intro ds z h H Hf vs Q s r q
  unfold dMin2 at h
  split at h
  · cases h
    obtain ⟨v, u, rfl, h1, h2⟩ := r.two_inv
    exact ⟨_, _, by rw [show v = _ from h1, show u = _ from h2], q _ H Hf (Ext.refl s) rfl⟩
  · cases h
def dInt : List D → Option D
  | [.int i] => some (.int i)
  | [.bl b] => some (.int (if b then 1 else 0))
  | _ => none
theorem int1_rl {K : Fr} : RLd K (fun xs H Q => (∃ i, xs = [.int i] ∧ Q (.int i) H) ∨ ∃ k, xs = [.bl k] ∧ Q (.int (if k then 1 else 0)) H) dInt := by
  intro ds z h H Hf vs Q s r q
  unfold dInt at h
  split at h
  · cases h
    obtain ⟨v, rfl, h1⟩ := r.one_inv
    exact .inl ⟨_, by rw [show v = _ from h1], q _ H Hf (Ext.refl s) rfl⟩
  · cases h
    obtain ⟨v, rfl, h1⟩ := r.one_inv
    exact .inr ⟨_, by rw [show v = _ from h1], q _ H Hf (Ext.refl s) rfl⟩
  · cases h
/-- max, min, sum, any, all of one list -/
def maxL : List Int → Int
  | [] => 0
  | [x] => x
  | x :: r => max x (maxL r)
def minL : List Int → Int
  | [] => 0
  | [x] => x
  | x :: r => min x (minL r)
theorem maxL_spec : ∀ {ns : List Int}, ns ≠ [] → maxL ns ∈ ns ∧ ∀ y ∈ ns, y ≤ maxL ns
  | [], h => absurd rfl h
  | [x], _ => ⟨by simp [maxL], by simp [maxL]⟩
  | x :: y :: r, _ => by
    obtain ⟨h1, h2⟩ := maxL_spec (ns := y :: r) (by simp)
    have e : maxL (x :: y :: r) = max x (maxL (y :: r)) := rfl
    rw [e]
    refine ⟨?_, fun z hz => ?_⟩
    · rcases Int.le_total x (maxL (y :: r)) with q | q
      · rw [Int.max_eq_right q]; exact List.mem_cons_of_mem _ h1
      · rw [Int.max_eq_left q]; simp
    · rcases List.mem_cons.mp hz with rfl | hz
      · exact Int.le_max_left _ _
      · exact Int.le_trans (h2 z hz) (Int.le_max_right _ _)
theorem minL_spec : ∀ {ns : List Int}, ns ≠ [] → minL ns ∈ ns ∧ ∀ y ∈ ns, minL ns ≤ y
  | [], h => absurd rfl h
  | [x], _ => ⟨by simp [minL], by simp [minL]⟩
  | x :: y :: r, _ => by
    obtain ⟨h1, h2⟩ := minL_spec (ns := y :: r) (by simp)
    have e : minL (x :: y :: r) = min x (minL (y :: r)) := rfl
    rw [e]
    refine ⟨?_, fun z hz => ?_⟩
    · rcases Int.le_total x (minL (y :: r)) with q | q
      · rw [Int.min_eq_left q]; simp
      · rw [Int.min_eq_right q]; exact List.mem_cons_of_mem _ h1
    · rcases List.mem_cons.mp hz with rfl | hz
      · exact Int.min_le_left _ _
      · exact Int.le_trans (Int.min_le_right _ _) (h2 z hz)
def onInts (g : List Int → Option D) : List D → Option D
  | [.lst xs] => (asInts xs).bind g
  | _ => none
def onBls (g : List Bool → Option D) : List D → Option D
  | [.lst xs] => (asBls xs).bind g
  | _ => none
theorem ints_arg {K : Fr} {H Hf : Hp} {g : List Int → Option D} {ds : List D} {z : D} {vs : List V} (h : onInts g ds = some z) (s : Same Hf H) (r : RpL K Hf ds vs) : ∃ a ns, vs = [V.ref a] ∧ H a = some (.lst (ns.map V.int)) ∧ g ns = some z := by
  unfold onInts at h
  split at h
  · obtain ⟨ns, e1, e2⟩ := Option.bind_eq_some_iff.mp h
    obtain ⟨v, rfl, a, us, rfl, ha, rl⟩ := r.one_inv
    rw [asInts_eq e1] at rl
    rw [rl.ints_eq] at ha
    exact ⟨a, ns, rfl, s _ _ ha, e2⟩
  · cases h
theorem bls_arg {K : Fr} {H Hf : Hp} {g : List Bool → Option D} {ds : List D} {z : D} {vs : List V} (h : onBls g ds = some z) (s : Same Hf H) (r : RpL K Hf ds vs) : ∃ a ns, vs = [V.ref a] ∧ H a = some (.lst (ns.map V.bl)) ∧ g ns = some z := by
  unfold onBls at h
  split at h
  · obtain ⟨ns, e1, e2⟩ := Option.bind_eq_some_iff.mp h
    obtain ⟨v, rfl, a, us, rfl, ha, rl⟩ := r.one_inv
    rw [asBls_eq e1] at rl
    rw [rl.bls_eq] at ha
    exact ⟨a, ns, rfl, s _ _ ha, e2⟩
  · cases h
abbrev dSum := onInts fun ns => some (.int ns.sum)
abbrev dMaxL := onInts fun ns => if ns = [] then none else some (.int (maxL ns))
abbrev dMinL := onInts fun ns => if ns = [] then none else some (.int (minL ns))
abbrev dAll := onBls fun bs => some (.bl (bs.all id))
abbrev dAny := onBls fun bs => some (.bl (bs.any id))
theorem sum_rl {K : Fr} : RLd K (rSum K) dSum := by
  intro ds z h H Hf vs Q s r q
  obtain ⟨a, ns, rfl, ha, e⟩ := ints_arg h s r
  cases e
  exact ⟨a, ns, rfl, SqL.of ha, q _ H Hf (Ext.refl s) rfl⟩
theorem maxL_rl {K : Fr} : RLd K (rMax K) dMaxL := by
  intro ds z h H Hf vs Q s r q
  obtain ⟨a, ns, rfl, ha, e⟩ := ints_arg h s r
  split at e
  · cases e
  · rename_i hn
    cases e
    obtain ⟨h1, h2⟩ := maxL_spec hn
    refine ⟨a, ns, rfl, SqL.of ha, List.length_pos_iff.mpr hn, fun m hm hl => ?_⟩
    have : m = maxL ns := Int.le_antisymm (h2 m hm) (hl _ h1)
    subst this
    exact q _ H Hf (Ext.refl s) rfl
theorem minL_rl {K : Fr} : RLd K (rMin K) dMinL := by
  intro ds z h H Hf vs Q s r q
  obtain ⟨a, ns, rfl, ha, e⟩ := ints_arg h s r
  split at e
  · cases e
  · rename_i hn
    cases e
    obtain ⟨h1, h2⟩ := minL_spec hn
    refine ⟨a, ns, rfl, SqL.of ha, List.length_pos_iff.mpr hn, fun m hm hl => ?_⟩
    have : m = minL ns := Int.le_antisymm (hl _ h1) (h2 m hm)
    subst this
    exact q _ H Hf (Ext.refl s) rfl
theorem all_rl {K : Fr} : RLd K (rAll K) dAll := by
  intro ds z h H Hf vs Q s r q
  obtain ⟨a, ns, rfl, ha, e⟩ := bls_arg h s r
  cases e
  exact ⟨a, ns, rfl, SqL.of ha, q _ H Hf (Ext.refl s) rfl⟩
theorem any_rl {K : Fr} : RLd K (rAny K) dAny := by
  intro ds z h H Hf vs Q s r q
  obtain ⟨a, ns, rfl, ha, e⟩ := bls_arg h s r
  cases e
  exact ⟨a, ns, rfl, SqL.of ha, q _ H Hf (Ext.refl s) rfl⟩

/-! ### built-ins that give a fresh list -/
/-- the reading r follows from h: a fresh list -/
def RFd (K : Fr) (r : List V → Hp → VK → Prop) (h : List D → Option (List D)) : Prop := ∀ ds z, h ds = some z → ∀ H Hf vs Q, Same Hf H → RpL K Hf ds vs →
  (∀ p us, H p = none → RpL K Hf z us → Q (.ref p) (upd H p (.lst us))) → r vs H Q
def fCB (h : List D → Option (List D)) (g : En → Option (List D)) : En → Option (List D) := fun Γ => (g Γ).bind h
theorem fCB_of {K : Fr} {g : En → Option (List D)} {h : List D → Option (List D)} {r : List V → Hp → VK → Prop} (hr : RFd K r h) {σ : L2.St} {H : Hp} {Q : VK} (q : tF K (fCB h g) σ H Q) : tCB r (tA' K g) σ H Q := by
  obtain ⟨Γ, Hf, z, w, e1, q⟩ := q
  obtain ⟨ds, e2, e3⟩ := Option.bind_eq_some_iff.mp e1
  refine ⟨Γ, Hf, ds, w, e2, fun vs H1 Hf1 x r1 => ?_⟩
  exact hr ds z e3 H1 Hf1 vs Q x.2.2.1 r1 fun p us hp rz => fresh_of (Γ := Γ) (σ := σ) x.2.2.1 x hp rz q
theorem fv_callB {id : String} {x : Str} {e : Expr} {pos p : Pos} {es : List Expr} {r : List V → Hp → VK → Prop} {h : List D → Option (List D)} {g : En → Option (List D)} (hc : CallR X (.builtin id) r) (hr : RFd X.K r h) (hg : Gl X x) (hm : X.mg x = none) (hv : bootBuiltins x = some (.builtin id)) (ha : AV X (e :: es) g) (hn : x ≠ "__name__" := by decide) (hdb : (x == ("__debug__" : Str)) = false := by decide)
    (he : starEach (e :: es) X.env = (false, eval e X.env) :: starEach es X.env := by rfl) (hpl : (backTo pos (starEach es X.env)).any (·.1) = false := by rfl) : FV X (.Call (.Name x p) (e :: es) [] pos) (fCB h g) :=
  ⟨PE.imp (pe_callB hc hg hm hv ha.pa hn hdb he hpl) fun _ _ _ q => fCB_of hr q⟩
theorem fv_callTy {T : String} {x : Str} {e : Expr} {pos p : Pos} {es : List Expr} {r : List V → Hp → VK → Prop} {h : List D → Option (List D)} {g : En → Option (List D)} (hc : CallR X (.type T) r) (hr : RFd X.K r h) (hg : Gl X x) (hm : X.mg x = none) (hv : bootBuiltins x = some (.type T)) (ha : AV X (e :: es) g) (hn : x ≠ "__name__" := by decide) (hdb : (x == ("__debug__" : Str)) = false := by decide)
    (he : starEach (e :: es) X.env = (false, eval e X.env) :: starEach es X.env := by rfl) (hpl : (backTo pos (starEach es X.env)).any (·.1) = false := by rfl) : FV X (.Call (.Name x p) (e :: es) [] pos) (fCB h g) :=
  ⟨PE.imp (pe_callTy hc hg hm hv ha.pa hn hdb he hpl) fun _ _ _ q => fCB_of hr q⟩
/-- sorted: of ints, of pairs -/
def dSorted : List D → Option (List D)
  | [.lst xs] => match asInts xs with
    | some ns => some ((srt ns).map D.int)
    | none => (asPairs xs).map fun ps => (srtP ps).map encP
  | _ => none
def keyP (H : Hp) (v : V) : Int × Int := match v with
  | .ref t => (match H t with
    | some (.tup [.int i, .int j]) => (i, j)
    | _ => (0, 0))
  | _ => (0, 0)
def rSortedA (K : Fr) : List V → Hp → VK → Prop := fun vs H Q => rSortedI K vs H Q ∨ rSortedPO K vs H Q
theorem CallR.or {f : Value} {r r' : List V → Hp → VK → Prop} (h : CallR X f r) (h' : CallR X f r') : CallR X f (fun xs H Q => r xs H Q ∨ r' xs H Q) := by
  intro pins s σ H xs us Q I rr q
  rcases q with q | q
  · exact h pins s σ H xs us Q I rr q
  · exact h' pins s σ H xs us Q I rr q
theorem cr_sortedA : CallR X (.builtin "sorted") (rSortedA X.K) := CallR.or cr_sortedI cr_sortedPO
theorem RpL.pairs_at {K : Fr} {Hf H : Hp} (s : Same Hf H) : ∀ {ps : List (Int × Int)} {vs : List V}, RpL K Hf (ps.map encP) vs → (∀ v ∈ vs, ∃ t, v = .ref t ∧ H t = some (.tup [.int (keyP H v).1, .int (keyP H v).2]) ∧ Rp K Hf (encP (keyP H v)) v) ∧ vs.map (keyP H) = ps
  | [], _, r => by cases (show _ = ([] : List V) from r); exact ⟨by simp, rfl⟩
  | p :: ps, _, ⟨v, u, e, h, t⟩ => by
    subst e
    obtain ⟨h1, h2⟩ := RpL.pairs_at s t
    obtain ⟨a, us, rfl, ha, rl⟩ := id h
    obtain ⟨v1, v2, rfl, e1, e2⟩ := rl.two_inv
    cases (show v1 = .int p.1 from e1)
    cases (show v2 = .int p.2 from e2)
    have hk : keyP H (.ref a) = p := by unfold keyP; simp [s _ _ ha]
    refine ⟨fun w hw => ?_, by rw [List.map_cons, h2, hk]⟩
    rcases List.mem_cons.mp hw with rfl | hw
    · rw [hk]; exact ⟨a, rfl, s _ _ ha, h⟩
    · exact h1 w hw
theorem RpL.of_keys {K : Fr} {Hf H : Hp} : ∀ {vs : List V}, (∀ v ∈ vs, Rp K Hf (encP (keyP H v)) v) → RpL K Hf ((vs.map (keyP H)).map encP) vs
  | [], _ => rfl
  | v :: vs, h => ⟨v, vs, rfl, h v (by simp), RpL.of_keys fun u hu => h u (by simp [hu])⟩
theorem sorted_rf {K : Fr} : RFd K (rSortedA K) dSorted := by
  intro ds z h H Hf vs Q s r q
  unfold dSorted at h
  split at h
  · rename_i xs
    obtain ⟨v, rfl, a, us, rfl, ha, rl⟩ := r.one_inv
    cases e : asInts xs with
    | some ns =>
      rw [e] at h
      cases h
      rw [asInts_eq e] at rl
      rw [rl.ints_eq] at ha
      refine .inl ⟨a, ns, rfl, SqL.of (s _ _ ha), fun ns' p hp hs hn => ?_⟩
      rw [srt_uniq hp hs]
      exact q p _ hn RpL.ints
    | none =>
      rw [e] at h
      obtain ⟨ps, e1, e2⟩ := Option.map_eq_some_iff.mp (show (asPairs xs).map (fun ps => (srtP ps).map encP) = some z from h)
      subst e2
      rw [asPairs_eq xs e1] at rl
      obtain ⟨h1, h2⟩ := rl.pairs_at s
      refine .inr ⟨a, us, keyP H, rfl, SqL.of (s _ _ ha), fun x hx => let ⟨t, e1, e2, _⟩ := h1 x hx; ⟨t, e1, e2⟩, fun ys p h3 h4 hn => ?_⟩
      have hm : ys.map (keyP H) = srtP ps := by
        refine srtP_uniq (by rw [← h2]; exact h4.perm.map _) ?_
        rw [List.pairwise_map]
        exact List.Pairwise.imp (fun {x y} hxy => by unfold leP; rw [show SrtO.lexB (keyP H y) (keyP H x) = false from hxy]; rfl) h3
      have := RpL.of_keys (K := K) (Hf := Hf) (H := H) (vs := ys) fun y hy => (h1 y (h4.perm.mem_iff.mp hy)).choose_spec.2.2
      rw [hm] at this
      exact q p ys hn this
  · cases h
/-- list(x) of a list or tuple -/
def dList : List D → Option (List D)
  | [.lst xs] => some xs
  | [.tup xs] => some xs
  | _ => none
theorem list_rf {K : Fr} : RFd K (fun xs H Q => ∃ p ys, xs = [.ref p] ∧ (SqL K H p ys ∨ SqT K H p ys) ∧ ∀ l, H l = none → Q (.ref l) (upd H l (.lst ys))) dList := by
  intro ds z h H Hf vs Q s r q
  unfold dList at h
  split at h
  · cases h
    obtain ⟨v, rfl, a, us, rfl, ha, rl⟩ := r.one_inv
    exact ⟨a, us, rfl, .inl (SqL.of (s _ _ ha)), fun l hl => q l us hl rl⟩
  · cases h
    obtain ⟨v, rfl, a, us, rfl, ha, rl⟩ := r.one_inv
    exact ⟨a, us, rfl, .inr (SqT.of (s _ _ ha)), fun l hl => q l us hl rl⟩
  · cases h
/-- tuple(x) -/
def dTuple : List D → Option D
  | [.lst xs] => some (.tup xs)
  | [.tup xs] => some (.tup xs)
  | _ => none
theorem tuple_rl {K : Fr} : RLd K (fun xs H Q => ∃ p ys, xs = [.ref p] ∧ ((SqL K H p ys ∧ ∀ l, H l = none → Q (.ref l) (upd H l (.tup ys))) ∨ (SqT K H p ys ∧ Q (.ref p) H))) dTuple := by
  intro ds z h H Hf vs Q s r q
  unfold dTuple at h
  split at h
  · cases h
    obtain ⟨v, rfl, a, us, rfl, ha, rl⟩ := r.one_inv
    exact ⟨a, us, rfl, .inl ⟨SqL.of (s _ _ ha), new_tup s rl q⟩⟩
  · cases h
    obtain ⟨v, rfl, a, us, rfl, ha, rl⟩ := r.one_inv
    exact ⟨a, us, rfl, .inr ⟨SqT.of (s _ _ ha), q _ H Hf (Ext.refl s) ⟨a, us, rfl, ha, rl⟩⟩⟩
  · cases h
/-- list(range(n)), list(range(a, b)) -/
def fRg (f : En → Option D) : En → Option (List D) := fun Γ => (f Γ).bind fun d => (isInt d).bind fun n => if 0 ≤ n ∧ n ≤ 1000000 then some (rng 0 n.toNat) else none
theorem rgV_rng {K : Fr} {H : Hp} (n : Int) : RpL K H (rng 0 n.toNat) (rgV 0 n) := by
  have : rng 0 n.toNat = ((List.range n.toNat).map fun k : Nat => (0 : Int) + (k : Int)).map D.int := by
    unfold rng; rw [List.map_map]; rfl
  rw [this]
  have h2 : rgV 0 n = ((List.range n.toNat).map fun k : Nat => (0 : Int) + (k : Int)).map V.int := by
    unfold rgV
    rw [List.map_map]
    simp
  rw [h2]
  exact RpL.ints
theorem fv_listRg {e : Expr} {p pos q pos2 : Pos} {f : En → Option D} (hc : X.calm = true) (hg : Gl X "list") (hm : X.mg "list" = none) (hg2 : Gl X "range") (hm2 : X.mg "range" = none) (he : EV X e f)
    (h : ∀ te, PE X e te → PE X (.Call (.Name "list" p) [.Call (.Name "range" q) [e] [] pos2] [] pos) (tLstRg (tRg1 te))) : FV X (.Call (.Name "list" p) [.Call (.Name "range" q) [e] [] pos2] [] pos) (fRg f) := by
  refine ⟨PE.imp (h _ he.pe) fun σ H Q ⟨Γ, Hf, z, w, e1, q⟩ => ?_⟩
  obtain ⟨d, e2, e3⟩ := Option.bind_eq_some_iff.mp e1
  obtain ⟨n, e4, e5⟩ := Option.bind_eq_some_iff.mp e3
  have := isInt_eq e4
  subst this
  split at e5
  · rename_i hn
    cases e5
    refine ⟨Γ, Hf, _, w, e2, fun v H1 Hf1 x r => ⟨n, r, .of_le (by omega) (by omega) (by omega) (by omega), fun p hp => ?_⟩⟩
    exact fresh_of (Γ := Γ) (σ := σ) x.2.2.1 x hp (rgV_rng n) q
  · cases e5

/-! ### isinstance -/
def tyN : D → String
  | .non => "NoneType"
  | .bl _ => "bool"
  | .int _ => "int"
  | .str _ => "str"
  | .lst _ => "list"
  | .tup _ => "tuple"
  | .dct _ => "dict"
  | .emp => "dict"
  | .scr _ => "list"
theorem Rp.ty {K : Fr} {H Hf : Hp} (s : Same Hf H) {d : D} {v : V} (r : Rp K Hf d v) : TyX K H v (.type (tyN d)) := by
  cases d with
  | non => cases (show v = .non from r); exact .base .non
  | bl b => cases (show v = .bl b from r); exact .base (.bl b)
  | int b => cases (show v = .int b from r); exact .base (.int b)
  | str b => cases (show v = .str b from r); exact .base (.str b)
  | lst _ => obtain ⟨a, vs, rfl, h, _⟩ := r; exact .base (.lst (s _ _ h))
  | tup _ => obtain ⟨a, vs, rfl, h, _⟩ := r; exact .base (.tup (s _ _ h))
  | dct _ =>
    obtain ⟨a, rfl, h⟩ := r
    exact .base (.dT (s _ _ h))
  | emp =>
    obtain ⟨a, rfl, h⟩ := r
    exact .base (.dK (s _ _ h))
  | scr _ =>
    obtain ⟨a, rfl, h⟩ := r
    rcases h with (h | ⟨o, h⟩) | ⟨o, its, n, h, c, _⟩
    · exact .base (.lst (s _ _ h))
    · exact .base (.frz (s _ _ h))
    · exact .kList h c
/-- is a thing of this type one of T? -/
def isTn (T t : String) : Bool := t == T || (T == "int" && t == "bool")
def isT (T : String) (d : D) : Bool := isTn T (tyN d)
def eIsi (T : String) (f : En → Option D) : En → Option D := fun Γ => (f Γ).map fun d => .bl (isT T d)
def tyNs : List String := ["NoneType", "bool", "int", "str", "list", "tuple", "dict"]
def goodTs : List String := ["int", "bool", "list", "tuple", "str"]
theorem kit_n : ∀ t ∈ tyNs, ∀ T ∈ goodTs, kitB t T = some (isTn T t) := by decide +kernel
theorem tyN_in (d : D) : tyN d ∈ tyNs := by cases d <;> simp [tyN, tyNs]
theorem kitB_isT {T : String} (h : T ∈ goodTs) (d : D) : kitB (tyN d) T = some (isT T d) := kit_n _ (tyN_in d) _ h
theorem ev_isi {e : Expr} {pos p p2 : Pos} {T : Str} {T' : String} {f : En → Option D} (hT : T' ∈ goodTs) (hg : Gl X "isinstance") (hm : X.mg "isinstance" = none) (he : EV X e f) (h2 : PE X (.Name T p2) (tC (.ty T')))
    (hv : bootBuiltins ("isinstance" : Str) = some (.builtin "isinstance") := by decide +kernel)
    (hs : starEach [e, .Name T p2] X.env = (false, eval e X.env) :: starEach [.Name T p2] X.env := by rfl) (hs2 : starEach [.Name T p2] X.env = (false, eval (.Name T p2) X.env) :: starEach [] X.env := by rfl)
    (hpl : (backTo pos (starEach [.Name T p2] X.env)).any (·.1) = false := by rfl) : EV X (.Call (.Name "isinstance" p) [e, .Name T p2] [] pos) (eIsi T' f) := by
  refine ev_of (pe_callB call_isi hg hm hv (pa_cons he.pe (pa_cons h2 pa_nil hs2) hs) (by decide) (by decide) hs hpl) fun σ H Q ⟨Γ, Hf, z, w, e1, q⟩ => ?_
  obtain ⟨d, e2, e3⟩ := Option.map_eq_some_iff.mp e1
  subst e3
  refine ⟨Γ, Hf, d, w, e2, fun v H1 Hf1 x r => ?_⟩
  exact ⟨v, .ty T', .type (tyN d), .type T', isT T' d, rfl, .ty T', r.ty x.2.2.1, kit_ty (kitB_isT hT d), q _ H1 Hf1 x rfl⟩
end
end DL

/-! DL5: owned slots, dicts, freezing, defs. -/
namespace DL
open PySem PySem.Spec PyProof.Rows L2

/-! ### slots change -/
section
variable {K : Fr} {H0 Hf0 H Hf H' Hf' : Hp} {Γ : En} {σ : L2.St}
theorem Wf.chg (w : Wf K H0 Hf0 Γ σ H Hf) {i : Nat} {s : Sl} (hs : Γ[i]? = some s) : ∃ o O, σ[i]? = some o ∧ SlOk K Hf H s o O ∧ (∀ a ∈ O, Hf a = none) ∧
    ∀ (s' : Sl) (H' : Hp), (∀ b, b ∉ O → H' b = H b) → SlOk K Hf H' s' o O → Wf K H0 Hf0 (Γ.set i s') σ H' Hf := by
  obtain ⟨ow, h1, h2, h3⟩ := w.own
  obtain ⟨o, e1, e2⟩ := h1 i s hs
  have hi : i < Γ.length := (List.getElem?_eq_some_iff.mp hs).1
  refine ⟨o, ow i, e1, e2, fun a ha => (h3 i a ha).1, fun s' H' off new => ?_⟩
  refine ⟨fun b u hb => ?_, w.sub0, fun b u hb => ?_, w.new, by simpa using w.len, ow, fun j t ht => ?_, h2, fun j a ha => ?_⟩
  · rw [off b fun hm => by rw [(h3 i b hm).1] at hb; cases hb]; exact w.sub _ _ hb
  · rw [off b fun hm => by rw [(h3 i b hm).2.1] at hb; cases hb]; exact w.same0 _ _ hb
  · by_cases hj : j = i
    · subst hj
      rw [List.getElem?_set_self hi] at ht
      cases ht
      exact ⟨o, e1, new⟩
    · rw [List.getElem?_set_ne (Ne.symm hj)] at ht
      obtain ⟨u, e3, e4⟩ := h1 j t ht
      exact ⟨u, e3, e4.ext (Same.refl _) fun a ha x hx => by rw [off a (h2 j i hj a ha)]; exact hx⟩
  · by_cases hj : j = i
    · subst hj
      obtain ⟨x, y, _⟩ := h3 j a ha
      exact ⟨x, y, new.there a ha⟩
    · obtain ⟨x, y, z⟩ := h3 j a ha
      rw [off a (h2 j i hj a ha)]
      exact ⟨x, y, z⟩
theorem Wf.setOwn (w : Wf K H0 Hf0 Γ σ H Hf) (x : Ext H Hf H' Hf') {i : Nat} {v : V} {O : List Addr} (hO : ∀ a ∈ O, H a = none ∧ Hf' a = none) {s : Sl} (hs : SlOk K Hf' H' s (some v) O) :
    Wf K H0 Hf0 (Γ.set i s) (σ.set i (some v)) H' Hf' := by
  have w' := w.ext x
  obtain ⟨ow, h1, h2, h3⟩ := w.own
  refine ⟨w'.sub, w'.sub0, w'.same0, w'.new, by simpa using w.len, fun j => if j = i then O else ow j, fun j t ht => ?_, fun j k hjk a ha => ?_, fun j a ha => ?_⟩
  · by_cases hj : j = i
    · subst hj
      have hl : j < Γ.length := by simpa using (List.getElem?_eq_some_iff.mp ht).1
      rw [List.getElem?_set_self hl] at ht
      cases ht
      refine ⟨some v, List.getElem?_set_self (by rw [← w.len]; exact hl), ?_⟩
      simp only [if_pos]
      exact hs
    · rw [List.getElem?_set_ne (Ne.symm hj)] at ht
      obtain ⟨o, e1, e2⟩ := h1 j t ht
      refine ⟨o, by rw [List.getElem?_set_ne (Ne.symm hj)]; exact e1, ?_⟩
      simp only [if_neg hj]
      exact e2.ext x.2.1 fun a _ u q => x.1 a u q
  · by_cases hj : j = i
    · subst hj
      simp only [if_pos] at ha
      simp only [if_neg (Ne.symm hjk)]
      intro hm
      obtain ⟨_, _, u, hu, _⟩ := h3 k a hm
      rw [(hO a ha).1] at hu; cases hu
    · simp only [if_neg hj] at ha
      by_cases hk : k = i
      · subst hk
        simp only [if_pos]
        intro hm
        obtain ⟨_, _, u, hu, _⟩ := h3 j a ha
        rw [(hO a hm).1] at hu; cases hu
      · simp only [if_neg hk]
        exact h2 j k hjk a ha
  · by_cases hj : j = i
    · subst hj
      simp only [if_pos] at ha
      obtain ⟨u, hu, mu⟩ := hs.there a ha
      exact ⟨(hO a ha).2, w.same0.free (hO a ha).1, u, hu, mu⟩
    · simp only [if_neg hj] at ha
      obtain ⟨y, z, u, hu, mu, nt⟩ := h3 j a ha
      refine ⟨?_, z, u, x.1 a u hu, mu, nt⟩
      rcases x.2.2.2 a with q | q | q | ⟨xs, q⟩
      · exact q
      · exact absurd y q
      · rw [q] at hu; cases hu
      · rw [q] at hu; cases hu; exact absurd rfl (nt xs)
/-! ### freezing -/
def asKI : List (List Int × D) → Option (List (List Int × Int))
  | [] => some []
  | (k, .int n) :: r => (asKI r).map ((k, n) :: ·)
  | _ => none
def frz1 : Sl → Sl
  | .ol ds => .sh (.lst ds)
  | .oll rows => .sh (.lst (rows.map D.lst))
  | .ow _ d => .sh d
  | .ot kvs => match asKI kvs with
    | some ks => .sh (.dct ks)
    | none => .ot kvs
  | s => s
def frzAt : Nat → En → En
  | _, [] => []
  | 0, s :: r => frz1 s :: r
  | n + 1, s :: r => s :: frzAt n r
theorem frzAt_get : ∀ (i : Nat) (Γ : En) (j : Nat), (frzAt i Γ)[j]? = if j = i then (Γ[j]?).map frz1 else Γ[j]?
  | _, [], j => by simp [frzAt]
  | 0, s :: r, 0 => by simp [frzAt]
  | 0, s :: r, j + 1 => by simp [frzAt]
  | n + 1, s :: r, 0 => by simp [frzAt]
  | n + 1, s :: r, j + 1 => by simp [frzAt, frzAt_get n r j]
theorem frzAt_len : ∀ (i : Nat) (Γ : En), (frzAt i Γ).length = Γ.length
  | _, [] => by simp [frzAt]
  | 0, s :: r => rfl
  | n + 1, s :: r => by simp [frzAt, frzAt_len n r]
theorem asKI_eq : ∀ {kvs : List (List Int × D)} {ks : List (List Int × Int)}, asKI kvs = some ks → kvs = ks.map fun p => (p.1, D.int p.2) := by
  intro kvs
  induction kvs with
  | nil => intro ks h; cases h; rfl
  | cons d r ih =>
    intro ks h
    unfold asKI at h
    split at h
    · rename_i e; cases e
    · rename_i k n r' e
      cases e
      obtain ⟨m, e1, e2⟩ := Option.map_eq_some_iff.mp h
      subst e2
      rw [ih e1]; rfl
    · cases h
theorem RowsAt.rp {K : Fr} {Hf H : Hp} {Hx : Hp} (s : Same Hf Hx) : ∀ {rows : List (List D)} {bs : List Addr}, RowsAt K Hf H rows bs → (∀ b ∈ bs, ∀ u, H b = some u → Hx b = some u) → RpL K Hx (rows.map D.lst) (bs.map V.ref)
  | _, _, .nil, _ => rfl
  | _, _, .cons e r t, h => ⟨_, _, rfl, ⟨_, _, rfl, h _ (by simp) _ e, r.mono s⟩, t.rp s fun b hb => h b (by simp [hb])⟩
theorem OwnL.rp {K : Fr} {Hx : Hp} {R : D → V → List Addr → Prop} : ∀ {ds : List D} {vs : List V} {O : List Addr}, OwnL R ds vs O → (∀ d v O', (∀ a ∈ O', a ∈ O) → R d v O' → Rp K Hx d v) → RpL K Hx ds vs
  | [], _, _, q, _ => q.1
  | _ :: _, _, _, ⟨v, r, O1, O2, e1, e2, h, t⟩, i => ⟨v, r, e1, i _ _ _ (fun a ha => by rw [e2]; simp [ha]) h, OwnL.rp t fun d v O' s => i d v O' fun a ha => by rw [e2]; simp [s a ha]⟩
theorem OwnR.rp {K : Fr} {Hf H Hx : Hp} (s : Same Hf Hx) : ∀ {k : Nat} {d : D} {v : V} {O : List Addr}, OwnR K Hf H k d v O → (∀ b ∈ O, ∀ u, H b = some u → Hx b = some u) → Rp K Hx d v
  | 0, _, _, _, ⟨e, r⟩, _ => r.mono s
  | k + 1, .lst ds, _, _, ⟨a, vs, O', e1, e2, e3, t⟩, h => ⟨a, vs, e1, h a (by rw [e2]; simp) _ e3, OwnL.rp t fun d v O2 s' r => r.rp s fun c hc => h c (by rw [e2]; simp [s' c hc])⟩
  | k + 1, .tup ds, _, _, ⟨a, vs, e1, e3, t⟩, h => ⟨a, vs, e1, s _ _ e3, OwnL.rp t fun d v O2 s' r => r.rp s fun c hc => h c (s' c hc)⟩
  | k + 1, .non, _, _, ⟨e, r⟩, _ => Rp.mono s r
  | k + 1, .bl _, _, _, ⟨e, r⟩, _ => Rp.mono s r
  | k + 1, .int _, _, _, ⟨e, r⟩, _ => Rp.mono s r
  | k + 1, .str _, _, _, ⟨e, r⟩, _ => Rp.mono s r
  | k + 1, .dct _, _, _, ⟨e, r⟩, _ => Rp.mono s r
  | k + 1, .emp, _, _, ⟨e, r⟩, _ => Rp.mono s r
  | k + 1, .scr _, _, _, ⟨e, r⟩, _ => Rp.mono s r
theorem SlOk.frz {s : Sl} {o : Option V} {O : List Addr} (ok : SlOk K Hf H s o O) (hO : ∀ a ∈ O, Hf a = none) (sub : Same Hf H) : ∃ Hx, Same Hf Hx ∧ Same Hx H ∧ (∀ b, Hx b = none ∨ Hf b ≠ none ∨ b ∈ O) ∧ (∀ b, b ∉ O → Hx b = Hf b) ∧ (frz1 s ≠ s → SlOk K Hx H (frz1 s) o []) := by
  classical
  let Hx : Hp := fun b => if b ∈ O then H b else Hf b
  have hx1 : Same Hf Hx := fun b u e => by
    show (if b ∈ O then H b else Hf b) = _
    by_cases hb : b ∈ O
    · rw [hO b hb] at e; cases e
    · rw [if_neg hb]; exact e
  have hx2 : Same Hx H := fun b u e => by
    have e' : (if b ∈ O then H b else Hf b) = some u := e
    by_cases hb : b ∈ O
    · rw [if_pos hb] at e'; exact e'
    · rw [if_neg hb] at e'; exact sub _ _ e'
  have hx3 : ∀ b ∈ O, ∀ u, H b = some u → Hx b = some u := fun b hb u e => by
    show (if b ∈ O then H b else Hf b) = _
    rw [if_pos hb]; exact e
  refine ⟨Hx, hx1, hx2, fun b => ?_, fun b hb => if_neg hb, fun ns => ?_⟩
  · by_cases hb : b ∈ O
    · exact .inr (.inr hb)
    · cases e : Hf b with
      | none => exact .inl (by show (if b ∈ O then H b else Hf b) = _; rw [if_neg hb]; exact e)
      | some _ => exact .inr (.inl (fun q => nomatch q))
  · cases s with
    | no => exact absurd rfl ns
    | sh d => exact absurd rfl ns
    | ok kvs => exact absurd rfl ns
    | «at» a' => exact absurd rfl ns
    | od a' ds => exact absurd rfl ns
    | ow k d =>
      obtain ⟨_, v, e, r⟩ := ok
      exact ⟨rfl, v, e, r.rp hx1 fun b hb => hx3 b hb⟩
    | ol ds =>
      obtain ⟨a, vs, eO, eo, ha, r⟩ := ok
      exact ⟨rfl, .ref a, eo, a, vs, rfl, hx3 a (by rw [eO]; simp) _ ha, r.mono hx1⟩
    | oll rows =>
      obtain ⟨a, bs, eO, eo, ha, r, _⟩ := ok
      refine ⟨rfl, .ref a, eo, a, bs.map V.ref, rfl, hx3 a (by rw [eO]; simp) _ ha, r.rp hx1 fun b hb => hx3 b (by rw [eO]; simp [hb])⟩
    | ot kvs =>
      obtain ⟨a, ws, eO, eo, ha, r⟩ := ok
      cases e : asKI kvs with
      | none => exact absurd (show frz1 (.ot kvs) = .ot kvs by unfold frz1; simp [e]) ns
      | some ks =>
        have hfz : frz1 (.ot kvs) = .sh (.dct ks) := by unfold frz1; simp [e]
        rw [hfz]
        have ek := asKI_eq e
        subst ek
        refine ⟨rfl, .ref a, eo, a, rfl, hx3 a (by rw [eO]; simp) _ ?_⟩
        have : (ks.map fun p => (p.1, D.int p.2)).map (·.2) = (ks.map (·.2)).map D.int := by simp
        rw [this] at r
        rw [r.ints_eq] at ha
        rw [ha]
        unfold ktO dctO
        simp [List.zip_map']
theorem Wf.frz (w : Wf K H0 Hf0 Γ σ H Hf) (i : Nat) : ∃ Hf', Wf K H0 Hf0 (frzAt i Γ) σ H Hf' ∧ Same Hf Hf' := by
  obtain ⟨ow, h1, h2, h3⟩ := w.own
  let P : Prop := ∃ s, Γ[i]? = some s ∧ frz1 s ≠ s
  by_cases hP : P
  case neg =>
    refine ⟨Hf, ⟨w.sub, w.sub0, w.same0, w.new, by rw [frzAt_len]; exact w.len, ow, fun j t ht => ?_, h2, h3⟩, Same.refl _⟩
    rw [frzAt_get] at ht
    by_cases hj : j = i
    · subst hj
      rw [if_pos rfl] at ht
      obtain ⟨s, e1, e2⟩ := Option.map_eq_some_iff.mp ht
      have : frz1 s = s := Classical.byContradiction fun z => hP ⟨s, e1, z⟩
      rw [this] at e2
      subst e2
      exact h1 j s e1
    · rw [if_neg hj] at ht
      exact h1 j t ht
  obtain ⟨s, es, ns⟩ := hP
  obtain ⟨o, eo, ok⟩ := h1 i s es
  obtain ⟨Hx, hx1, hx2, hx4, hx5, new'⟩ := ok.frz (fun a ha => (h3 i a ha).1) w.sub
  have new := new' ns
  refine ⟨Hx, ⟨hx2, w.sub0.trans hx1, w.same0, fun b => ?_, by rw [frzAt_len]; exact w.len, fun j => if j = i then [] else ow j, fun j t ht => ?_, fun j k hjk a ha => ?_, fun j a ha => ?_⟩, hx1⟩
  · rcases hx4 b with hb | hb | hb
    · exact .inl hb
    · rcases w.new b with q | q
      · exact absurd q hb
      · exact .inr q
    · exact .inr (.inr (.inl (h3 i b hb).2.1))
  · rw [frzAt_get] at ht
    by_cases hj : j = i
    · subst hj
      rw [if_pos rfl, es] at ht
      cases ht
      refine ⟨o, eo, ?_⟩
      simp only [if_pos]
      exact new
    · rw [if_neg hj] at ht
      obtain ⟨u, e3, e4⟩ := h1 j t ht
      refine ⟨u, e3, ?_⟩
      simp only [if_neg hj]
      exact e4.ext hx1 fun a _ x hx => hx
  · by_cases hj : j = i
    · simp [hj] at ha
    · by_cases hk : k = i
      · simp [hk]
      · simp only [if_neg hj] at ha
        simp only [if_neg hk]
        exact h2 j k hjk a ha
  · by_cases hj : j = i
    · simp [hj] at ha
    · simp only [if_neg hj] at ha
      obtain ⟨x, y, z⟩ := h3 j a ha
      exact ⟨by rw [hx5 a fun hm => h2 j i hj a ha hm]; exact x, y, z⟩
def frzL : List Nat → En → En
  | [], Γ => Γ
  | i :: r, Γ => frzL r (frzAt i Γ)
theorem Wf.frzL : ∀ (is : List Nat) {Γ : En} {Hf : Hp}, Wf K H0 Hf0 Γ σ H Hf → ∃ Hf', Wf K H0 Hf0 (frzL is Γ) σ H Hf' ∧ Same Hf Hf'
  | [], _, Hf, w => ⟨Hf, w, Same.refl _⟩
  | i :: r, _, Hf, w => by
    obtain ⟨Hf1, w1, s1⟩ := w.frz i
    obtain ⟨Hf2, w2, s2⟩ := Wf.frzL r w1
    exact ⟨Hf2, w2, s1.trans s2⟩
end
def sFrz (is : List Nat) (s : En → Out) : En → Out := fun Γ => s (frzL is Γ)
section
variable {X : Cx} {xq : XQ} {st : Stmt} {e : Expr} {pos : Pos}
theorem sv_frz {s : En → Out} (is : List Nat) (h : SV X xq st s) : SV X xq st (sFrz is s) := ⟨PS.imp h.ps fun Dn σ H ⟨H0, Hf0, Γ, Hf, w, q⟩ => by
  obtain ⟨Hf', w', _⟩ := w.frzL is
  exact ⟨H0, Hf0, _, Hf', w', q⟩⟩
theorem svs_frz {s : En → Out} {sts : List Stmt} (is : List Nat) (h : SVs X xq sts s) : SVs X xq sts (sFrz is s) := ⟨PSs.imp h.ps fun Dn σ H ⟨H0, Hf0, Γ, Hf, w, q⟩ => by
  obtain ⟨Hf', w', _⟩ := w.frzL is
  exact ⟨H0, Hf0, _, Hf', w', q⟩⟩
/-! ### borrowing: the answer is flat -/
def flatD : D → Bool
  | .non => true
  | .bl _ => true
  | .int _ => true
  | .str _ => true
  | _ => false
theorem Rp.flat {K : Fr} {H H' : Hp} {d : D} {v : V} (h : flatD d = true) (r : Rp K H d v) : Rp K H' d v := by
  cases d <;> first | exact r | cases h
def eBor (is : List Nat) (f : En → Option D) : En → Option D := fun Γ => (f (frzL is Γ)).bind fun d => if flatD d = true then some d else none
theorem ev_bor {f : En → Option D} (is : List Nat) (h : EV X e f) : EV X e (eBor is f) := by
  refine ev_of h.pe fun σ H Q ⟨Γ, Hf, d, w, e1, q⟩ => ?_
  obtain ⟨d', e2, e3⟩ := Option.bind_eq_some_iff.mp e1
  split at e3
  · rename_i hf
    cases e3
    obtain ⟨Hf', w', s'⟩ := w.frzL is
    refine ⟨_, Hf', d, w', e2, fun v H1 Hf1 x r => q v H1 Hf ⟨x.1, Same.refl _, fun b u hb => x.1 _ _ (w.sub _ _ hb), fun b => ?_⟩ (r.flat hf)⟩
    cases z : Hf b with
    | none => exact .inl rfl
    | some _ => exact .inr (.inl (fun q => nomatch q))
  · cases e3
def bBor (is : List Nat) (f : En → Option Bool) : En → Option Bool := fun Γ => f (frzL is Γ)
theorem tv_bor {f : En → Option Bool} (is : List Nat) (h : TV X e f) : TV X e (bBor is f) := by
  refine ⟨PT.imp h.pt fun σ H Q ⟨Γ, Hf, d, w, e1, q⟩ => ?_⟩
  obtain ⟨Hf', w', s'⟩ := w.frzL is
  refine ⟨_, Hf', d, w', e1, fun H1 Hf1 x => q H1 Hf ⟨x.1, Same.refl _, fun b u hb => x.1 _ _ (w.sub _ _ hb), fun b => ?_⟩⟩
  cases z : Hf b with
  | none => exact .inl rfl
  | some _ => exact .inr (.inl (fun q => nomatch q))

/-! ### a fresh list, a new dict in a slot -/
def sOwn (i : Nat) (f : En → Option (List D)) : En → Out := fun Γ => match f Γ with
  | some ds => .nx (Γ.set i (.ol ds))
  | none => .bad
theorem sv_own {i : Nat} {x : Str} {f : En → Option (List D)} {pos' : Pos} (hN : X.N.Nodup) (hi : X.N[i]? = some x) (hx : Loc X.env.scope x) (he : FV X e f) (hs : swapsWith e (some (.Name x pos')) pos.line X.env = pure false := by rfl) (hf : X.fn x = true ∨ X.env.scope.names.lookup x = some .local := by first | exact .inl rfl | exact .inr rfl | assumption) :
    SV X xq (.Assign [.Name x pos'] e pos) (sOwn i f) := by
  refine ⟨PS.imp (ps_set hN hi hx he.pe hs hf) fun Dn σ H ⟨H0, Hf0, Γ, Hf, w, q⟩ => ?_⟩
  unfold sOwn at q
  cases e1 : f Γ with
  | none => rw [e1] at q; exact q.elim
  | some ds =>
    rw [e1] at q
    refine ⟨Γ, Hf, ds, w.w0, e1, fun a vs H' Hf' x n h hn r => ?_⟩
    exact q _ H' Hf' (w.setOwn x (O := [a]) (fun b hb => by simp at hb; subst hb; exact ⟨n, hn⟩) ⟨a, vs, rfl, rfl, h, r⟩)
/-- name = [..] on its own line where the comprehension stores itself -/
def tSetLc (wi : TI) (g : TG) (tt : TT) (te : TE) (vs : List Nat) (i : Nat) : TS := tAsg (tLc wi g tt te vs) (gName i)
theorem sv_ownLc {elt tg iter : Expr} {ifs : List Expr} {scope : Scope} {own : List (Str × Nat)} {ts : List Nat} {i : Nat} {y : Str} {py spos : Pos} {f : En → Option (List D)} {b : Bd} {c : En → Option Bool} {g : En → Option D} (hc : X.calm = true) (hN : X.N.Nodup) (hy : X.N[i]? = some y) (hyl : X.env.scope.names.lookup y = some .local)
    (hsw : swapsWith (.ListComp elt [⟨tg, iter, ifs, 0⟩] scope pos) (some (.Name y py)) spos.line X.env = pure true) (hi : IV X tg iter f) (ok : BlkOk X.N X.env.scope scope own)
    (hg : ∀ (s : Shared) (H : Hp) (C : Addr) (cl : List (Str × Addr)) (fp : List Addr), GV (X.blk s H scope (compEnvC scope cl C X.env) fp) tg ts b) (ht : ∀ (s : Shared) (H : Hp) (C : Addr) (cl : List (Str × Addr)) (fp : List Addr), TsV (X.blk s H scope (compEnvC scope cl C X.env) fp) ifs c)
    (he : ∀ (s : Shared) (H : Hp) (C : Addr) (cl : List (Str × Addr)) (fp : List Addr), EV (X.blk s H scope (compEnvC scope cl C X.env) fp) elt g) (hs2 : ∀ i ∈ ts, i ∈ own.map (·.2) := by decide) (hs : ∀ x, foldedSetIterable iter X.env x = pure x := by intro _; rfl) :
    SV X xq (.Assign [.Name y py] (.ListComp elt [⟨tg, iter, ifs, 0⟩] scope pos) spos) (sOwn i (fComp (own.map (·.2)) f b c g)) := by
  refine ⟨PS.imp (ps_setLc (wi := tI X.K f) (g := tG X.K ts b) (tt := tT X.K c) (te := tE X.K g) hc hN hy hyl hsw hi.pi ok (fun s H C cl fp => (hg s H C cl fp).pg) (fun s H C cl fp => (ht s H C cl fp).pt) (fun s H C cl fp => (he s H C cl fp).pe) hs) fun Dn σ H ⟨H0, Hf0, Γ, Hf, w, q⟩ => ?_⟩
  unfold sOwn at q
  cases e1 : fComp (own.map (·.2)) f b c g Γ with
  | none => rw [e1] at q; exact q.elim
  | some ds =>
    rw [e1] at q
    refine tLc_of (ts := ts) hs2 ⟨Γ, Hf, ds, w.w0, e1, fun a vs H' Hf' x n h hn r => ?_⟩
    exact q _ H' Hf' (w.setOwn x (O := [a]) (fun b hb => by simp at hb; subst hb; exact ⟨n, hn⟩) ⟨a, vs, rfl, rfl, h, r⟩)
theorem sOwn_frz {i : Nat} {f : En → Option (List D)} : True := trivial
def sNewK (i : Nat) : En → Out := fun Γ => .nx (Γ.set i (.ok []))
def sNewT (i : Nat) : En → Out := fun Γ => .nx (Γ.set i (.ot []))
theorem new_ext {H Hf : Hp} {p : Addr} {o : HO} (s : Same Hf H) (hp : H p = none) : Ext H Hf (upd H p o) Hf := ⟨same_upd hp, Same.refl _, fun c u e => by rw [upd_ne (ne_of_none e (s.free hp))]; exact s _ _ e, fun c => by
  cases e : Hf c with
  | none => exact .inl rfl
  | some _ => exact .inr (.inl (fun q => nomatch q))⟩
theorem sv_newK {i : Nat} {x : Str} {pos' pos2 : Pos} (hN : X.N.Nodup) (hi : X.N[i]? = some x) (hx : Loc X.env.scope x) (hs : swapsWith (.Dict [] [] pos2) (some (.Name x pos')) pos.line X.env = pure false := by rfl) (hf : X.fn x = true ∨ X.env.scope.names.lookup x = some .local := by first | exact .inl rfl | exact .inr rfl | assumption) :
    SV X xq (.Assign [.Name x pos'] (.Dict [] [] pos2) pos) (sNewK i) := by
  refine ⟨PS.imp (ps_set hN hi hx pe_dnewK hs hf) fun Dn σ H ⟨H0, Hf0, Γ, Hf, w, q⟩ => fun p hp => ?_⟩
  exact q _ _ _ (w.setOwn (new_ext w.sub hp) (O := [p]) (fun b hb => by simp at hb; subst hb; exact ⟨hp, w.sub.free hp⟩) ⟨p, [], rfl, rfl, upd_same, rfl⟩)
theorem sv_newT {i : Nat} {x : Str} {pos' pos2 : Pos} (hN : X.N.Nodup) (hi : X.N[i]? = some x) (hx : Loc X.env.scope x) (hs : swapsWith (.Dict [] [] pos2) (some (.Name x pos')) pos.line X.env = pure false := by rfl) (hf : X.fn x = true ∨ X.env.scope.names.lookup x = some .local := by first | exact .inl rfl | exact .inr rfl | assumption) :
    SV X xq (.Assign [.Name x pos'] (.Dict [] [] pos2) pos) (sNewT i) := by
  refine ⟨PS.imp (ps_set hN hi hx pe_dnewT hs hf) fun Dn σ H ⟨H0, Hf0, Γ, Hf, w, q⟩ => fun p hp => ?_⟩
  exact q _ _ _ (w.setOwn (new_ext w.sub hp) (O := [p]) (fun b hb => by simp at hb; subst hb; exact ⟨hp, w.sub.free hp⟩) ⟨p, [], rfl, rfl, upd_same, rfl⟩)
/-- {} as shared data -/
theorem ev_dct0 : EV X (.Dict [] [] pos) (eC .emp) := by
  refine ev_of pe_dnewK fun σ H Q ⟨Γ, Hf, d, w, e1, q⟩ => fun p hp => ?_
  cases e1
  exact q _ _ _ (Ext.new w.sub hp) ⟨p, rfl, upd_same⟩

/-! ### methods that change an owned list -/
def gs : En → Nat → Sl
  | s :: _, 0 => s
  | _ :: r, n + 1 => gs r n
  | [], _ => .no
theorem gs_get : ∀ {Γ : En} {i : Nat} {s : Sl}, gs Γ i = s → s ≠ .no → Γ[i]? = some s
  | [], _, _, h, n => absurd h.symm n
  | s :: r, 0, _, h, _ => by rw [← h]; rfl
  | s :: r, i + 1, _, h, n => by rw [List.getElem?_cons_succ]; exact gs_get (Γ := r) (i := i) h n
theorem gs_set_ne : ∀ {Γ : En} {i j : Nat} {s : Sl}, i ≠ j → gs (Γ.set j s) i = gs Γ i
  | [], _, _, _, _ => rfl
  | _ :: _, 0, 0, _, h => absurd rfl h
  | _ :: _, 0, _ + 1, _, _ => rfl
  | _ :: _, _ + 1, 0, _, _ => rfl
  | _ :: r, i + 1, j + 1, _, h => gs_set_ne (Γ := r) fun e => h (by rw [e])
def sAppend (i : Nat) (f : En → Option D) : En → Out := fun Γ => match gs Γ i, f Γ with
  | .ol ds, some d => if ds.length < 1000000 then .nx (Γ.set i (.ol (ds ++ [d]))) else .bad
  | _, _ => .bad
def sExtend (i : Nat) (f : En → Option D) : En → Out := fun Γ => match gs Γ i, f Γ with
  | .ol ds, some (.lst es) => if ds.length + es.length ≤ 1000000 then .nx (Γ.set i (.ol (ds ++ es))) else .bad
  | _, _ => .bad
/-- the slot's reading: its address -/
theorem own_var {K : Fr} {H0 Hf0 H Hf : Hp} {Γ : En} {σ : L2.St} {i : Nat} {ds : List D} (w : Wf K H0 Hf0 Γ σ H Hf) (h : gs Γ i = .ol ds) : ∃ a vs, σ[i]? = some (some (.ref a)) ∧ H a = some (.lst vs) ∧ RpL K Hf ds vs ∧
    ∀ (ds' : List D) (vs' : List V), RpL K Hf ds' vs' → Wf K H0 Hf0 (Γ.set i (.ol ds')) σ (upd H a (.lst vs')) Hf := by
  obtain ⟨o, O, e1, ⟨a, vs, eO, eo, ha, r⟩, _, q⟩ := w.chg (gs_get h (fun z => nomatch z))
  subst eo eO
  exact ⟨a, vs, e1, ha, r, fun ds' vs' r' => q _ _ (fun b hb => upd_ne (by simpa using hb)) ⟨a, vs', rfl, rfl, upd_same, r'⟩⟩
theorem sv_append {i : Nat} {x : Str} {o : Expr} {pos2 p1 : Pos} {f : En → Option D} (ho : PE X o (tVar i)) (he : EV X e f)
    (h : ∀ te, PE X e te → PS X (.Expr (.Call (.Attribute o x p1) [e] [] pos2) pos) (tDrop (tBM X.K "list" rAppend (tVar i) (tCons te tNil)))) : SV X xq (.Expr (.Call (.Attribute o x p1) [e] [] pos2) pos) (sAppend i f) := by
  refine ⟨PS.imp (h _ he.pe) fun Dn σ H ⟨H0, Hf0, Γ, Hf, w, q⟩ => ?_⟩
  unfold sAppend at q
  split at q
  · rename_i ds d e1 e2
    split at q
    · rename_i hl
      obtain ⟨a, vs, h1, h2, h3, _⟩ := own_var w e1
      refine ⟨.ref a, h1, .inl ⟨rfl, vs, SqL.of h2⟩, Γ, Hf, d, w.w0, e2, fun v H1 Hf1 x r => ?_⟩
      obtain ⟨a', vs', k1, k2, k3, k4⟩ := own_var (w.ext x) e1
      rw [h1] at k1; cases k1
      refine ⟨a, vs', v, rfl, rfl, k2, ?_, ?_⟩
      · rw [k3.length, sizeLine_eq]; omega
      · exact q σ _ Hf1 (k4 _ _ (k3.append (.one r)))
    · exact q.elim
  · exact q.elim
theorem sv_extend {i : Nat} {x : Str} {o : Expr} {pos2 p1 : Pos} {f : En → Option D} (ho : PE X o (tVar i)) (he : EV X e f)
    (h : ∀ te, PE X e te → PS X (.Expr (.Call (.Attribute o x p1) [e] [] pos2) pos) (tDrop (tBM X.K "list" rExtend (tVar i) (tCons te tNil)))) : SV X xq (.Expr (.Call (.Attribute o x p1) [e] [] pos2) pos) (sExtend i f) := by
  refine ⟨PS.imp (h _ he.pe) fun Dn σ H ⟨H0, Hf0, Γ, Hf, w, q⟩ => ?_⟩
  unfold sExtend at q
  split at q
  · rename_i ds es e1 e2
    split at q
    · rename_i hl
      obtain ⟨a, vs, h1, h2, h3, _⟩ := own_var w e1
      refine ⟨.ref a, h1, .inl ⟨rfl, vs, SqL.of h2⟩, Γ, Hf, _, w.w0, e2, fun v H1 Hf1 x r => ?_⟩
      obtain ⟨a', vs', k1, k2, k3, k4⟩ := own_var (w.ext x) e1
      rw [h1] at k1; cases k1
      obtain ⟨b, us, rfl, hb, rb⟩ := r
      refine ⟨a, b, vs', us, rfl, rfl, k2, x.2.2.1 _ _ hb, ?_, ?_⟩
      · rw [k3.length, rb.length]; exact million hl
      · exact q σ _ Hf1 (k4 _ _ (k3.append rb))
    · exact q.elim
  · exact q.elim
/-- target = x.pop(), x.pop(e) -/
def sPop (i : Nat) (b : Bd) : En → Out := fun Γ => match gs Γ i with
  | .ol ds => (match ds[ds.length - 1]? with
    | some d => (match b d (Γ.set i (.ol ds.dropLast)) with
      | some Γ' => .nx Γ'
      | none => .bad)
    | none => .bad)
  | _ => .bad
theorem RpL.dropLast {K : Fr} {H : Hp} {ds : List D} {vs : List V} (r : RpL K H ds vs) : RpL K H ds.dropLast vs.dropLast := by
  rw [List.dropLast_eq_take, List.dropLast_eq_take, r.length]
  exact r.take _
theorem pop_core {i : Nat} {b : Bd} {Dn : Ends} {σ : L2.St} {H : Hp} {g : TG} (hg : ∀ v σ H Q, (∃ ts, tG X.K ts b v σ H Q) → g v σ H Q) (q : tS X.K xq (sPop i b) Dn σ H) :
    tBM0 X.K "list" rPop (tVar i) σ H fun x H1 => g x σ H1 Dn.nx := by
  obtain ⟨H0, Hf0, Γ, Hf, w, q⟩ := q
  unfold sPop at q
  split at q
  · rename_i ds e1
    split at q
    · rename_i d e2
      split at q
      · rename_i Γ' e3
        obtain ⟨a, vs, h1, h2, h3, h4⟩ := own_var w e1
        obtain ⟨v, e4, e5⟩ := h3.get e2
        refine ⟨.ref a, h1, .inl ⟨rfl, vs, SqL.of h2⟩, a, vs, v, rfl, rfl, h2, by rw [h3.length]; exact e4, ?_⟩
        exact hg _ _ _ _ ⟨[], H0, Hf0, _, Hf, d, Γ', h4 _ _ h3.dropLast, e5, e3, fun σ' _ w' => q σ' _ Hf w'⟩
      · exact q.elim
    · exact q.elim
  · exact q.elim
theorem tG_weak {K : Fr} {ts : List Nat} {b : Bd} {v : V} {σ : L2.St} {H : Hp} {Q : L2.St → Hp → Prop} (h : ∃ ts, tG K ts b v σ H Q) (hb : ∀ σ', But ts σ σ' → True) : True := trivial
theorem sv_popN {i j : Nat} {x m : Str} {o : Expr} {p1 pos2 pos' : Pos} (ho : PE X o (tVar i))
    (h : PS X (.Assign [.Name x pos'] (.Call (.Attribute o m p1) [] [] pos2) pos) (tAsg (tBM0 X.K "list" rPop (tVar i)) (gName j))) : SV X xq (.Assign [.Name x pos'] (.Call (.Attribute o m p1) [] [] pos2) pos) (sPop i (bN j)) := by
  refine ⟨PS.imp h fun Dn σ H q => ?_⟩
  obtain ⟨H0, Hf0, Γ, Hf, w, q⟩ := q
  unfold sPop at q
  split at q
  · rename_i ds e1
    split at q
    · rename_i d e2
      obtain ⟨a, vs, h1, h2, h3, h4⟩ := own_var w e1
      obtain ⟨v, e4, e5⟩ := h3.get e2
      refine ⟨.ref a, h1, .inl ⟨rfl, vs, SqL.of h2⟩, a, vs, v, rfl, rfl, h2, by rw [h3.length]; exact e4, ?_⟩
      exact q _ _ Hf ((h4 _ _ h3.dropLast).setSh e5)
    · exact q.elim
  · exact q.elim
theorem sv_pop2 {i j k : Nat} {m : Str} {tg o : Expr} {p1 pos2 : Pos} (ho : PE X o (tVar i))
    (h : PS X (.Assign [tg] (.Call (.Attribute o m p1) [] [] pos2) pos) (tAsg (tBM0 X.K "list" rPop (tVar i)) (gTup X.K 2 (gCons (gName j) (gCons (gName k) gNil))))) : SV X xq (.Assign [tg] (.Call (.Attribute o m p1) [] [] pos2) pos) (sPop i (b2 j k)) := by
  refine ⟨PS.imp h fun Dn σ H q => ?_⟩
  obtain ⟨H0, Hf0, Γ, Hf, w, q⟩ := q
  unfold sPop at q
  split at q
  · rename_i ds e1
    split at q
    · rename_i d e2
      split at q
      · rename_i Γ' e3
        obtain ⟨a, vs, h1, h2, h3, h4⟩ := own_var w e1
        obtain ⟨v, e4, e5⟩ := h3.get e2
        refine ⟨.ref a, h1, .inl ⟨rfl, vs, SqL.of h2⟩, a, vs, v, rfl, rfl, h2, by rw [h3.length]; exact e4, ?_⟩
        unfold b2 at e3
        split at e3
        · rename_i x y
          cases e3
          obtain ⟨c, us, rfl, hc, v1, r1, rfl, q1, v2, r2, rfl, q2, q3⟩ := e5
          cases (show r2 = [] from q3)
          have w4 := h4 _ _ h3.dropLast
          refine ⟨c, [v1, v2], rfl, SqT.of (w4.sub _ _ hc), rfl, v1, [v2], rfl, v2, [], rfl, rfl, ?_⟩
          exact q _ _ Hf ((w4.setSh q1).setSh q2)
        · cases e3
      · exact q.elim
    · exact q.elim
  · exact q.elim
/-- x.pop() alone -/
def sPopD (i : Nat) : En → Out := sPop i (fun _ Γ => some Γ)
theorem sv_popD {i : Nat} {m : Str} {o : Expr} {p1 pos2 : Pos} (ho : PE X o (tVar i))
    (h : PS X (.Expr (.Call (.Attribute o m p1) [] [] pos2) pos) (tDrop (tBM0 X.K "list" rPop (tVar i)))) : SV X xq (.Expr (.Call (.Attribute o m p1) [] [] pos2) pos) (sPopD i) := by
  refine ⟨PS.imp h fun Dn σ H q => ?_⟩
  obtain ⟨H0, Hf0, Γ, Hf, w, q⟩ := q
  unfold sPopD sPop at q
  split at q
  · rename_i ds e1
    split at q
    · rename_i d e2
      obtain ⟨a, vs, h1, h2, h3, h4⟩ := own_var w e1
      obtain ⟨v, e4, e5⟩ := h3.get e2
      refine ⟨.ref a, h1, .inl ⟨rfl, vs, SqL.of h2⟩, a, vs, v, rfl, rfl, h2, by rw [h3.length]; exact e4, ?_⟩
      exact q _ _ Hf (h4 _ _ h3.dropLast)
    · exact q.elim
  · exact q.elim
/-- made.append(left.pop(e)) -/
def sAppPop (i j : Nat) (f : En → Option D) : En → Out := fun Γ => match gs Γ i, gs Γ j, f Γ with
  | .ol ds, .ol es, some (.int k) => if ds.length < 1000000 ∧ 0 ≤ k ∧ k < es.length ∧ i ≠ j ∧ es.length ≤ 1000 then (match es[k.toNat]? with
    | some d => .nx ((Γ.set j (.ol (es.eraseIdx k.toNat))).set i (.ol (ds ++ [d])))
    | none => .bad) else .bad
  | _, _, _ => .bad
theorem sv_appPop {i j : Nat} {x m : Str} {o o2 : Expr} {pos2 p1 p2 pos3 : Pos} {f : En → Option D} (he : EV X e f)
    (h : ∀ te, PE X e te → PS X (.Expr (.Call (.Attribute o x p1) [.Call (.Attribute o2 m p2) [e] [] pos3] [] pos2) pos) (tDrop (tBM X.K "list" rAppend (tVar i) (tCons (tBM X.K "list" rPopAt (tVar j) (tCons te tNil)) tNil)))) :
    SV X xq (.Expr (.Call (.Attribute o x p1) [.Call (.Attribute o2 m p2) [e] [] pos3] [] pos2) pos) (sAppPop i j f) := by
  refine ⟨PS.imp (h _ he.pe) fun Dn σ H ⟨H0, Hf0, Γ, Hf, w, q⟩ => ?_⟩
  unfold sAppPop at q
  split at q
  · rename_i ds es k e1 e2 e3
    split at q
    · rename_i hl
      split at q
      · rename_i d e4
        obtain ⟨a, vs, h1, h2, h3, _⟩ := own_var w e1
        obtain ⟨c, us, g1, g2, g3, _⟩ := own_var w e2
        refine ⟨.ref a, h1, .inl ⟨rfl, vs, SqL.of h2⟩, .ref c, g1, .inl ⟨rfl, us, SqL.of g2⟩, Γ, Hf, _, w.w0, e3, fun v H1 Hf1 x r => ?_⟩
        obtain ⟨c', us', l1, l2, l3, l4⟩ := own_var (w.ext x) e2
        rw [g1] at l1; cases l1
        obtain ⟨u, e5, e6⟩ := l3.get e4
        have hlen := l3.length
        refine ⟨c, us', k, k.toNat, u, rfl, by rw [show v = .int k from r], l2, by omega, by omega, ?_, e5, ?_⟩
        · refine (ixN_seq ?_).1
          unfold ixN
          rw [if_pos hl.2.1, if_pos (by rw [hlen]; exact hl.2.2.1)]
        have w3 := l4 _ _ (l3.eraseIdx k.toNat)
        have e1' : gs (Γ.set j (.ol (es.eraseIdx k.toNat))) i = .ol ds := by rw [gs_set_ne hl.2.2.2.1]; exact e1
        obtain ⟨a', vs', k1, k2, k3, k4⟩ := own_var w3 e1'
        rw [h1] at k1; cases k1
        refine ⟨a, vs', u, rfl, rfl, k2, ?_, ?_⟩
        · rw [k3.length, sizeLine_eq]; omega
        · exact q σ _ Hf1 (k4 _ _ (k3.append (.one e6)))
      · exact q.elim
    · exact q.elim
  · exact q.elim
end
end DL

/-! DL6: dicts in slots, defs. -/
namespace DL
open PySem PySem.Spec PyProof.Rows L2

/-! ### looking up -/
section
variable {κ κ' : Type} [DecidableEq κ] [DecidableEq κ'] {α : Type}
def lk (kvs : List (κ × α)) (k : κ) : Option α := (kvs.find? fun p => decide (p.1 = k)).map (·.2)
def pt (kvs : List (κ × α)) (k : κ) (d : α) : List (κ × α) := if (lk kvs k).isSome then kvs.map (fun p => if p.1 = k then (p.1, d) else p) else kvs ++ [(k, d)]
theorem lk_cons (p : κ × α) (r : List (κ × α)) (k : κ) : lk (p :: r) k = if p.1 = k then some p.2 else lk r k := by
  unfold lk
  rw [List.find?_cons]
  by_cases h : p.1 = k <;> simp [h]
theorem lk_nil (k : κ) : lk ([] : List (κ × α)) k = none := rfl
def zipJ (j : κ → κ') (kvs : List (κ × D)) (ws : List V) : List (κ' × V) := (kvs.map fun p => j p.1).zip ws
theorem valV_zip {K : Fr} {Hf : Hp} {j : κ → κ'} (hj : ∀ a b, j a = j b → a = b) : ∀ {kvs : List (κ × D)} {ws : List V}, RpL K Hf (kvs.map (·.2)) ws → ∀ k,
    (lk kvs k = none → valV (zipJ j kvs ws) (j k) = none) ∧ ∀ d, lk kvs k = some d → ∃ v, valV (zipJ j kvs ws) (j k) = some v ∧ Rp K Hf d v
  | [], _, r, k => by cases (show _ = ([] : List V) from r); exact ⟨fun _ => rfl, fun d h => by cases h⟩
  | p :: kvs, _, ⟨v, u, e, h, t⟩, k => by
    subst e
    rw [lk_cons]
    have ih := valV_zip hj (j := j) t k
    show (_ → valV ((j p.1, v) :: zipJ j kvs u) (j k) = none) ∧ ∀ d, _ → ∃ w, valV ((j p.1, v) :: zipJ j kvs u) (j k) = some w ∧ _
    by_cases hk : p.1 = k
    · rw [if_pos hk, valV_pos (by rw [hk])]
      exact ⟨fun z => (nomatch z), fun d hd => by cases hd; exact ⟨v, rfl, h⟩⟩
    · rw [if_neg hk, valV_neg (show ¬ j p.1 = j k from fun z => hk (hj _ _ z))]
      exact ih
theorem any_lk (kvs : List (κ × α)) (k : κ) : (kvs.any fun p => decide (p.1 = k)) = (lk kvs k).isSome := by
  induction kvs with
  | nil => rfl
  | cons p r ih =>
    rw [List.any_cons, lk_cons, ih]
    by_cases h : p.1 = k <;> simp [h]
theorem mapJ {K : Fr} {Hf : Hp} {j : κ → κ'} (hj : ∀ a b, j a = j b → a = b) {k : κ} {d : D} {v : V} (h : Rp K Hf d v) : ∀ {kvs : List (κ × D)} {ws : List V}, RpL K Hf (kvs.map (·.2)) ws →
    ∃ us, (zipJ j kvs ws).map (fun kv => if kv.1 = j k then (kv.1, v) else kv) = zipJ j (kvs.map fun p => if p.1 = k then (p.1, d) else p) us ∧ RpL K Hf ((kvs.map fun p => if p.1 = k then (p.1, d) else p).map (·.2)) us
  | [], _, r => by cases (show _ = ([] : List V) from r); exact ⟨[], rfl, rfl⟩
  | p :: kvs, _, ⟨x, u, e, hx, t⟩ => by
    subst e
    obtain ⟨us, e1, e2⟩ := mapJ hj h (j := j) t
    by_cases hk : p.1 = k
    · refine ⟨v :: us, ?_, ?_⟩
      · show ((if j p.1 = j k then (j p.1, v) else (j p.1, x)) :: (zipJ j kvs u).map _) = zipJ j ((if p.1 = k then (p.1, d) else p) :: _) _
        rw [if_pos (by rw [hk]), if_pos hk, e1]; rfl
      · show RpL K Hf ((if p.1 = k then (p.1, d) else p).2 :: _) _
        rw [if_pos hk]; exact .cons h e2
    · refine ⟨x :: us, ?_, ?_⟩
      · show ((if j p.1 = j k then (j p.1, v) else (j p.1, x)) :: (zipJ j kvs u).map _) = zipJ j ((if p.1 = k then (p.1, d) else p) :: _) _
        rw [if_neg (fun z => hk (hj _ _ z)), if_neg hk, e1]; rfl
      · show RpL K Hf ((if p.1 = k then (p.1, d) else p).2 :: _) _
        rw [if_neg hk]; exact .cons hx e2
theorem zip_snoc {j : κ → κ'} {kvs : List (κ × D)} {ws : List V} (hl : ws.length = kvs.length) (k : κ) (d : D) (v : V) : zipJ j kvs ws ++ [(j k, v)] = zipJ j (kvs ++ [(k, d)]) (ws ++ [v]) := by
  unfold zipJ
  rw [List.map_append, List.zip_append (by rw [List.length_map, hl])]
  rfl
theorem putJ {K : Fr} {Hf : Hp} {j : κ → κ'} (hj : ∀ a b, j a = j b → a = b) {k : κ} {d : D} {v : V} (h : Rp K Hf d v) {kvs : List (κ × D)} {ws : List V} (r : RpL K Hf (kvs.map (·.2)) ws) :
    ∃ us, putK (zipJ j kvs ws) (j k) v = zipJ j (pt kvs k d) us ∧ RpL K Hf ((pt kvs k d).map (·.2)) us := by
  unfold putK pt
  have e : ((zipJ j kvs ws).any fun kv => decide (kv.1 = j k)) = (lk kvs k).isSome := by
    rw [valV_any]
    obtain ⟨h1, h2⟩ := valV_zip hj r k (j := j)
    cases q : lk kvs k with
    | none => rw [h1 q]; rfl
    | some d => obtain ⟨w, e, _⟩ := h2 d q; rw [e]; rfl
  rw [e]
  by_cases q : (lk kvs k).isSome = true
  · rw [if_pos q, if_pos q]
    exact mapJ hj h r
  · rw [if_neg q, if_neg q]
    have hl : ws.length = kvs.length := by rw [r.length, List.length_map]
    exact ⟨ws ++ [v], zip_snoc hl k d v, by rw [List.map_append]; exact r.append (.one h)⟩
end
theorem kvO_zip (kvs : List (Int × D)) (ws : List V) : kvO kvs ws = zipJ (Sum.inl : Int → Key) kvs ws := rfl
theorem ktO_zip (kvs : List (List Int × D)) (ws : List V) : ktO kvs ws = zipJ (fun k : List Int => (k.map Sum.inl : List Key)) kvs ws := rfl
theorem inl_inj : ∀ a b : Int, (Sum.inl a : Key) = Sum.inl b → a = b := fun _ _ h => Sum.inl.inj h
theorem mapinl_inj : ∀ a b : List Int, (a.map Sum.inl : List Key) = b.map Sum.inl → a = b := fun a b h => by
  have := congrArg (List.map fun k : Key => match k with | .inl i => i | .inr _ => 0) h
  simpa [List.map_map, Function.comp_def] using this

/-- what a slot's dict has at a key: none if the key is of another kind -/
def dLook : Sl → D → Option (Option D)
  | .ok kvs, .int k => some (lk kvs k)
  | .ot kvs, .tup xs => (asInts xs).map fun k => lk kvs k
  | .sh (.dct kvs), .tup xs => (asInts xs).map fun k => (lk kvs k).map D.int
  | _, _ => none
theorem tup_key {K : Fr} {Hf H : Hp} (s : Same Hf H) {xs : List D} {k : List Int} {v : V} (e : asInts xs = some k) (r : Rp K Hf (.tup xs) v) : ∃ b, v = .ref b ∧ H b = some (.tup ((k.map Sum.inl : List Key).map kV)) := by
  obtain ⟨a, vs, rfl, ha, rl⟩ := r
  rw [asInts_eq e] at rl
  rw [rl.ints_eq] at ha
  refine ⟨a, rfl, ?_⟩
  rw [s _ _ ha, List.map_map]
  rfl
theorem look_get {K : Fr} {H0 Hf0 H Hf : Hp} {Γ : En} {σ : L2.St} {i : Nat} {d : D} {o : Option D} {v : V} (w : Wf K H0 Hf0 Γ σ H Hf) (h : dLook (gs Γ i) d = some o) (r : Rp K Hf d v) :
    ∃ a u, σ[i]? = some (some (.ref a)) ∧ IsD H a ∧ DGet H a v u ∧ (o = none → u = none) ∧ ∀ z, o = some z → ∃ x, u = some x ∧ Rp K Hf z x := by
  obtain ⟨ow, h1, _, _⟩ := w.own
  unfold dLook at h
  split at h
  · rename_i kvs k e1
    cases h
    obtain ⟨o, e2, a, ws, _, rfl, ha, rl⟩ := h1 i _ (gs_get e1 (fun z => nomatch z))
    cases (show v = .int k from r)
    obtain ⟨q1, q2⟩ := valV_zip inl_inj rl k
    exact ⟨a, _, e2, .inl ⟨_, .inl ha⟩, DGet.k (k := Sum.inl k) ha, q1, q2⟩
  · rename_i kvs xs e1
    obtain ⟨k, e3, e4⟩ := Option.map_eq_some_iff.mp h
    subst e4
    obtain ⟨o, e2, a, ws, _, rfl, ha, rl⟩ := h1 i _ (gs_get e1 (fun z => nomatch z))
    obtain ⟨b, rfl, hb⟩ := tup_key w.sub e3 r
    obtain ⟨q1, q2⟩ := valV_zip mapinl_inj rl k
    exact ⟨a, _, e2, .inr ⟨_, .inl ha⟩, DGet.t ha hb, q1, q2⟩
  · rename_i kvs xs e1
    obtain ⟨k, e3, e4⟩ := Option.map_eq_some_iff.mp h
    subst e4
    obtain ⟨o, e2, _, u, rfl, a, rfl, hd⟩ := h1 i _ (gs_get e1 (fun z => nomatch z))
    obtain ⟨b, rfl, hb⟩ := tup_key w.sub e3 r
    have key : ∀ kvs : List (List Int × Int), (lk kvs k = none → valV (dctO kvs) (k.map Sum.inl : List Key) = none) ∧ ∀ n, lk kvs k = some n → valV (dctO kvs) (k.map Sum.inl : List Key) = some (.int n) := by
      intro kvs
      induction kvs with
      | nil => exact ⟨fun _ => rfl, fun n z => by cases z⟩
      | cons p r ih =>
        rw [lk_cons]
        show (_ → valV (((p.1.map Sum.inl : List Key), V.int p.2) :: dctO r) _ = none) ∧ ∀ n, _ → valV (((p.1.map Sum.inl : List Key), V.int p.2) :: dctO r) _ = _
        by_cases hk : p.1 = k
        · rw [if_pos hk, valV_pos (by rw [hk])]
          exact ⟨fun z => (nomatch z), fun n hn => by cases hn; rfl⟩
        · rw [if_neg hk, valV_neg (fun z => hk (mapinl_inj _ _ z))]
          exact ih
    refine ⟨a, _, e2, .inr ⟨_, .inl (w.sub _ _ hd)⟩, DGet.t (w.sub _ _ hd) hb, fun z => (key kvs).1 (Option.map_eq_none_iff.mp z), fun z hz => ?_⟩
    obtain ⟨n, hn, rfl⟩ := Option.map_eq_some_iff.mp hz
    exact ⟨_, (key kvs).2 n hn, rfl⟩
  · cases h

section
variable {X : Cx} {xq : XQ} {e o : Expr} {pos : Pos}
def eDin (i : Nat) (f : En → Option D) : En → Option D := fun Γ => (f Γ).bind fun d => (dLook (gs Γ i) d).map fun o => .bl o.isSome
def eDnin (i : Nat) (f : En → Option D) : En → Option D := fun Γ => (f Γ).bind fun d => (dLook (gs Γ i) d).map fun o => .bl (!o.isSome)
def eDix (i : Nat) (f : En → Option D) : En → Option D := fun Γ => (f Γ).bind fun d => (dLook (gs Γ i) d).bind id
def eDget (i : Nat) (f g : En → Option D) : En → Option D := fun Γ => (f Γ).bind fun d => (dLook (gs Γ i) d).bind fun o => (g Γ).map fun z => o.getD z
theorem some_of {o : Option D} {u : Option V} {K : Fr} {Hf : Hp} (h1 : o = none → u = none) (h2 : ∀ z, o = some z → ∃ x, u = some x ∧ Rp K Hf z x) : u.isSome = o.isSome := by
  cases o with
  | none => rw [h1 rfl]; rfl
  | some z => obtain ⟨x, e, _⟩ := h2 z rfl; rw [e]; rfl
theorem tDin_of {K : Fr} {i : Nat} {f : En → Option D} {σ : L2.St} {H : Hp} {Q : VK} (q : tE K (eDin i f) σ H Q) : tDIn (tE K f) (tVar i) σ H Q := by
  obtain ⟨Γ, Hf, z, w, e1, q⟩ := q
  obtain ⟨d, e2, e3⟩ := Option.bind_eq_some_iff.mp e1
  obtain ⟨r, e4, e5⟩ := Option.map_eq_some_iff.mp e3
  subst e5
  refine ⟨Γ, Hf, d, w, e2, fun v H1 Hf1 x rv => ?_⟩
  obtain ⟨a, u, h1, _, h2, h3, h4⟩ := look_get (w.ext x) e4 rv
  refine ⟨.ref a, h1, a, u, rfl, h2, ?_⟩
  rw [some_of h3 h4]
  exact q _ H1 Hf1 x rfl
theorem tDnin_of {K : Fr} {i : Nat} {f : En → Option D} {σ : L2.St} {H : Hp} {Q : VK} (q : tE K (eDnin i f) σ H Q) : tDNotIn (tE K f) (tVar i) σ H Q := by
  obtain ⟨Γ, Hf, z, w, e1, q⟩ := q
  obtain ⟨d, e2, e3⟩ := Option.bind_eq_some_iff.mp e1
  obtain ⟨r, e4, e5⟩ := Option.map_eq_some_iff.mp e3
  subst e5
  refine ⟨Γ, Hf, d, w, e2, fun v H1 Hf1 x rv => ?_⟩
  obtain ⟨a, u, h1, _, h2, h3, h4⟩ := look_get (w.ext x) e4 rv
  refine ⟨.ref a, h1, a, u, rfl, h2, ?_⟩
  rw [some_of h3 h4]
  exact q _ H1 Hf1 x rfl
theorem ev_din {i : Nat} {f : En → Option D} (hu : X.A.units + 1 < cLine) (he : EV X e f) (ho : PE X o (tVar i)) (hm : behindInMarks .In o = false := by rfl) : EV X (.Compare e [.In] [o] pos) (eDin i f) :=
  ev_of (pe_cmp (pc_din hu he.pe ho) hm) fun _ _ _ q => tDin_of q
theorem ev_dnin {i : Nat} {f : En → Option D} (hu : X.A.units + 1 < cLine) (he : EV X e f) (ho : PE X o (tVar i)) (hm : behindInMarks .NotIn o = false := by rfl) : EV X (.Compare e [.NotIn] [o] pos) (eDnin i f) :=
  ev_of (pe_cmp (pc_dnotin hu he.pe ho) hm) fun _ _ _ q => tDnin_of q
theorem tst_B {K : Fr} {t : TE} {f : En → Option D} {σ : L2.St} {H : Hp} {Q : Bool → Hp → Prop} (h : ∀ Q, tE K f σ H Q → t σ H Q) (q : tT K (tst f) σ H Q) : tB t σ H Q := h _ (tE_tst q)
theorem tv_din {i : Nat} {f : En → Option D} (hu : X.A.units + 1 < cLine) (he : EV X e f) (ho : PE X o (tVar i)) (hm : behindInMarks .In o = false := by rfl) : TV X (.Compare e [.In] [o] pos) (tst (eDin i f)) :=
  ⟨PT.imp (pt_cmp (pc_din hu he.pe ho) hm) fun _ _ _ q => tst_B (fun _ => tDin_of) q⟩
theorem tv_dnin {i : Nat} {f : En → Option D} (hu : X.A.units + 1 < cLine) (he : EV X e f) (ho : PE X o (tVar i)) (hm : behindInMarks .NotIn o = false := by rfl) : TV X (.Compare e [.NotIn] [o] pos) (tst (eDnin i f)) :=
  ⟨PT.imp (pt_cmp (pc_dnotin hu he.pe ho) hm) fun _ _ _ q => tst_B (fun _ => tDnin_of) q⟩
theorem ev_dix {i : Nat} {f : En → Option D} (hu : X.A.units + 1 < cLine) (ho : PE X o (tVar i)) (he : EV X e f) (hs : NoSl e := by exact fun _ _ => rfl) : EV X (.Subscript o e pos) (eDix i f) := by
  refine ev_of (pe_dget hu ho he.pe hs) fun σ H Q ⟨Γ, Hf, z, w, e1, q⟩ => ?_
  obtain ⟨d, e2, e3⟩ := Option.bind_eq_some_iff.mp e1
  obtain ⟨r, e4, e5⟩ := Option.bind_eq_some_iff.mp e3
  have e5' : r = some z := e5
  subst e5'
  -- the dict's address is looked up first
  obtain ⟨ow, h1, _, _⟩ := w.own
  have hσ : ∃ a, σ[i]? = some (some (.ref a)) ∧ ∀ H1 Hf1 v, Ext H Hf H1 Hf1 → Rp X.K Hf1 d v → ∃ u, DGet H1 a v (some u) ∧ Rp X.K Hf1 z u := by
    have : ∃ a, σ[i]? = some (some (V.ref a)) := by
      unfold dLook at e4
      split at e4
      · rename_i kvs k g
        obtain ⟨o, e2, a, ws, _, rfl, _⟩ := h1 i _ (gs_get g (fun z => nomatch z))
        exact ⟨a, e2⟩
      · rename_i kvs k g
        obtain ⟨o, e2, a, ws, _, rfl, _⟩ := h1 i _ (gs_get g (fun z => nomatch z))
        exact ⟨a, e2⟩
      · rename_i kvs k g
        obtain ⟨o, e2, _, u, rfl, a, rfl, _⟩ := h1 i _ (gs_get g (fun z => nomatch z))
        exact ⟨a, e2⟩
      · cases e4
    obtain ⟨a, ha⟩ := this
    refine ⟨a, ha, fun H1 Hf1 v x rv => ?_⟩
    obtain ⟨a', u, g1, _, g2, _, g4⟩ := look_get (w.ext x) e4 rv
    rw [ha] at g1; cases g1
    obtain ⟨y, rfl, ry⟩ := g4 z rfl
    exact ⟨y, g2, ry⟩
  obtain ⟨a, ha, hq⟩ := hσ
  refine ⟨.ref a, ha, Γ, Hf, d, w, e2, fun v H1 Hf1 x rv => ?_⟩
  obtain ⟨u, g1, g2⟩ := hq H1 Hf1 v x rv
  exact ⟨a, u, rfl, g1, q u H1 Hf1 x g2⟩
theorem ev_dgetM {i : Nat} {f g : En → Option D} {e2 : Expr} {apos : Pos} (hu : X.A.units + 1 < cLine) (ho : PE X o (tVar i)) (he : EV X e f) (hf : EV X e2 g) (m : M2 X o "get" apos e e2 pos) : EV X (.Call (.Attribute o "get" apos) [e, e2] [] pos) (eDget i f g) := by
  refine ev_of (pe_dget2 hu ho he.pe hf.pe m) fun σ H Q ⟨Γ, Hf, z, w, e1, q⟩ => ?_
  obtain ⟨d, e2, e3⟩ := Option.bind_eq_some_iff.mp e1
  obtain ⟨r, e4, e5⟩ := Option.bind_eq_some_iff.mp e3
  obtain ⟨y, e6, e7⟩ := Option.map_eq_some_iff.mp e5
  subst e7
  obtain ⟨ow, h1, _, _⟩ := w.own
  have : ∃ a, σ[i]? = some (some (V.ref a)) ∧ IsD H a := by
    unfold dLook at e4
    split at e4
    · rename_i kvs k g
      obtain ⟨o, e2, a, ws, _, rfl, ha, _⟩ := h1 i _ (gs_get g (fun z => nomatch z))
      exact ⟨a, e2, .inl ⟨_, .inl ha⟩⟩
    · rename_i kvs k g
      obtain ⟨o, e2, a, ws, _, rfl, ha, _⟩ := h1 i _ (gs_get g (fun z => nomatch z))
      exact ⟨a, e2, .inr ⟨_, .inl ha⟩⟩
    · rename_i kvs k g
      obtain ⟨o, e2, _, u, rfl, a, rfl, ha⟩ := h1 i _ (gs_get g (fun z => nomatch z))
      exact ⟨a, e2, .inr ⟨_, .inl (w.sub _ _ ha)⟩⟩
    · cases e4
  obtain ⟨a, ha, hd⟩ := this
  refine ⟨.ref a, ha, a, rfl, hd, Γ, Hf, d, w, e2, fun v H1 Hf1 x1 r1 => ⟨Γ, Hf1, y, w.ext x1, e6, fun u H2 Hf2 x2 r2 => ?_⟩⟩
  obtain ⟨a', ov, g1, _, g2, g3, g4⟩ := look_get (w.ext (x1.trans x2)) e4 (r1.mono x2.2.1)
  rw [ha] at g1; cases g1
  refine ⟨ov, g2, q _ H2 Hf2 (x1.trans x2) ?_⟩
  cases r with
  | none => rw [g3 rfl]; exact r2
  | some z => obtain ⟨x, rfl, rx⟩ := g4 z rfl; exact rx
/-- d[k] = v -/
def sDput (i : Nat) (f g : En → Option D) : En → Out := fun Γ => match gs Γ i, f Γ, g Γ with
  | .ok kvs, some (.int k), some d => if kvs.length < 1000000 then .nx (Γ.set i (.ok (pt kvs k d))) else .bad
  | .ot kvs, some (.tup xs), some d => (match asInts xs with
    | some k => if kvs.length < 1000000 then .nx (Γ.set i (.ot (pt kvs k d))) else .bad
    | none => .bad)
  | _, _, _ => .bad
theorem sv_dput {i : Nat} {value : Expr} {pos' : Pos} {f g : En → Option D} (hu : X.A.units + 1 < cLine) (ho : PE X o (tVar i)) (he : EV X e f) (hv : EV X value g) (hs : swapsWith value (some (.Subscript o e pos')) pos.line X.env = pure false := by rfl) :
    SV X xq (.Assign [.Subscript o e pos'] value pos) (sDput i f g) := by
  refine ⟨PS.imp (ps_dput hu ho he.pe hv.pe hs) fun Dn σ H ⟨H0, Hf0, Γ, Hf, w, q⟩ => ?_⟩
  unfold sDput at q
  split at q
  · rename_i kvs k d g1 g2 g3
    split at q
    · rename_i hl
      refine ⟨Γ, Hf, d, w.w0, g3, fun v H1 Hf1 x1 r1 => ?_⟩
      obtain ⟨o, O, e1, ⟨a, ws, eO, eo, ha, r⟩, _, _⟩ := (w.ext x1).chg (gs_get g1 (fun z => nomatch z))
      subst eO eo
      refine ⟨.ref a, e1, Γ, Hf1, _, (w.ext x1).w0, g2, fun kv H2 Hf2 x2 r2 => ?_⟩
      obtain ⟨o', O', e1', ⟨a', ws', eO', eo', ha', r'⟩, _, q'⟩ := (w.ext (x1.trans x2)).chg (gs_get g1 (fun z => nomatch z))
      subst eO' eo'
      rw [e1] at e1'; cases e1'
      obtain ⟨us, p1, p2⟩ := putJ inl_inj (k := k) (r1.mono x2.2.1) r'
      refine ⟨a, upd H2 a (.dK (kvO (pt kvs k d) us)), rfl, ?_, q σ _ Hf2 (q' _ _ (fun b hb => upd_ne (by simpa using hb)) ⟨a, us, rfl, rfl, upd_same, p2⟩)⟩
      rw [show kv = V.int k from r2]
      have := DPut.k (k := Sum.inl k) (v := v) ha' (by
        unfold kvO
        rw [List.length_zip, List.length_map, r'.length, List.length_map, Nat.min_self, sizeLine_eq]; omega)
      rw [kvO_zip, p1] at this
      exact this
    · exact q.elim
  · rename_i kvs xs d g1 g2 g3
    split at q
    · rename_i k g4
      split at q
      · rename_i hl
        refine ⟨Γ, Hf, d, w.w0, g3, fun v H1 Hf1 x1 r1 => ?_⟩
        obtain ⟨o, O, e1, ⟨a, ws, eO, eo, ha, r⟩, _, _⟩ := (w.ext x1).chg (gs_get g1 (fun z => nomatch z))
        subst eO eo
        refine ⟨.ref a, e1, Γ, Hf1, _, (w.ext x1).w0, g2, fun kv H2 Hf2 x2 r2 => ?_⟩
        obtain ⟨o', O', e1', ⟨a', ws', eO', eo', ha', r'⟩, _, q'⟩ := (w.ext (x1.trans x2)).chg (gs_get g1 (fun z => nomatch z))
        subst eO' eo'
        rw [e1] at e1'; cases e1'
        obtain ⟨us, p1, p2⟩ := putJ mapinl_inj (k := k) (r1.mono x2.2.1) r'
        obtain ⟨b, rfl, hb⟩ := tup_key x2.2.2.1 g4 r2
        refine ⟨a, upd H2 a (.dT (ktO (pt kvs k d) us)), rfl, ?_, q σ _ Hf2 (q' _ _ (fun b hb => upd_ne (by simpa using hb)) ⟨a, us, rfl, rfl, upd_same, p2⟩)⟩
        have := DPut.t (k := k.map Sum.inl) (v := v) ha' hb (by
          unfold ktO
          rw [List.length_zip, List.length_map, r'.length, List.length_map, Nat.min_self, sizeLine_eq]; omega)
        rw [ktO_zip, p1] at this
        exact this
      · exact q.elim
    · exact q.elim
  · exact q.elim
end

/-! ### a def by its body -/
def frzR (s : Sl) : Res := match frz1 s with
  | .sh d => .ok d
  | _ => .bad
theorem frzR_eq {s : Sl} {d : D} (h : frzR s = .ok d) : frz1 s = .sh d := by
  unfold frzR at h
  cases e : frz1 s with
  | sh d' => rw [e] at h; cases h; rfl
  | _ => rw [e] at h; cases h
def runD (N : Nat) (body : En → Out) (ds : List D) : Res := match body (ds.map Sl.sh ++ List.replicate (N - ds.length) .no) with
  | .ret d _ => .ok d
  | .rto s => frzR s
  | .nx _ => .ok .non
  | .exc c => .exc c
  | _ => .bad
/-- what is handed back with its ownership -/
def runO (N : Nat) (body : En → Out) (ds : List D) : Option Sl := match body (ds.map Sl.sh ++ List.replicate (N - ds.length) .no) with
  | .rto s => some s
  | _ => none
def spO (K : Fr) (n : Nat) (g : List D → Option Sl) : Sp := fun vs H Q E => vs.length = n ∧ ∃ Hf ds s, Same Hf H ∧ RpL K Hf ds vs ∧ g ds = some s ∧
  ∀ v O H' Hf', Ext H Hf H' Hf' → (∀ a ∈ O, H a = none ∧ Hf' a = none) → SlOk K Hf' H' s (some v) O → Q v H'
theorem start_wf {K : Fr} {H Hf : Hp} {N : List Str} {ds : List D} {vs : List V} (s : Same Hf H) (r : RpL K Hf ds vs) : Wf K H Hf (ds.map Sl.sh ++ List.replicate (N.length - ds.length) .no) (L2.start N vs) H Hf := by
  refine ⟨s, Same.refl _, Same.refl _, fun b => ?_, ?_, fun _ => [], fun i t ht => ?_, fun _ _ _ a ha => absurd ha (by simp), fun _ a ha => absurd ha (by simp)⟩
  · cases e : Hf b with
    | none => exact .inl rfl
    | some _ => exact .inr (.inl (fun q => nomatch q))
  · unfold L2.start
    simp [r.length]
  · unfold L2.start
    by_cases hi : i < ds.length
    · rw [List.getElem?_append_left (by simpa using hi), List.getElem?_map] at ht
      obtain ⟨d, e1, e2⟩ := Option.map_eq_some_iff.mp ht
      subst e2
      obtain ⟨v, e3, e4⟩ := r.get e1
      refine ⟨some v, ?_, rfl, v, rfl, e4⟩
      rw [List.getElem?_append_left (by simp [r.length]; exact hi), List.getElem?_map, e3]
      rfl
    · rw [List.getElem?_append_right (by simpa using hi)] at ht
      have hn := ht
      rw [List.getElem?_replicate] at ht
      split at ht
      · cases ht
        rename_i hlt
        refine ⟨none, ?_, rfl⟩
        rw [List.getElem?_append_right (by simp [r.length]; omega), List.getElem?_replicate, if_pos]
        simp [r.length] at hlt ⊢
        omega
      · cases ht
section
variable {P : Program} {w : World} {K : Fr} {mg : Str → Option Value} {base : Heap} {ca : Str → Addr}
theorem fn_ok {x qual : Str} {st : Stmt} {f : Addr} {fd : FuncData} {N ps : List Str} {k n : Nat} {body : En → Out} (F : Fun K x qual st f fd) (S : FnScope N ps (defScope st)) (hn : n = ps.length)
    (h : ∀ (cdv : Value) (A : Around) (outer : List Env) (s : Shared) (H : Hp) (E : XK), Room k (A.deeper (envOfC qual (defScope st) s.heap.objs.size f cdv)) →
      SVs (cxOf CX0 P w K mg base N qual (defScope st) f cdv A outer s H E).nox xq0 (defBody st) body) : FnOk P w K mg base CX0 (k + 1) f fd ps (spD K ca false n (runD N.length body)) := by
  refine F.ok S (fun vs H Q E h => by rw [h.1, hn]) (fun cdv A outer s H vs Q E hr hsp => ⟨_, (h cdv A outer s H E hr).ps, ?_⟩)
  obtain ⟨_, Hf, ds, s1, r, q⟩ := hsp
  refine ⟨H, Hf, _, Hf, start_wf s1 r, ?_⟩
  unfold runD at q
  cases e : body (ds.map Sl.sh ++ List.replicate (N.length - ds.length) .no) with
  | ret d Γ' => rw [e] at q; exact fun v σ' H' Hf' w' r' => q v H' Hf' ⟨w'.same0, w'.sub0, w'.sub, w'.new⟩ r'
  | nx Γ' => rw [e] at q; exact fun σ' H' Hf' w' => q .non H' Hf' ⟨w'.same0, w'.sub0, w'.sub, w'.new⟩ rfl
  | rto t =>
    rw [e] at q
    intro v O Γ' σ' H' Hf' w' hO ok
    obtain ⟨Hx, x1, x2, x3, _, new⟩ := ok.frz (fun a ha => (hO a ha).2) w'.sub
    have nb : ∀ b, Hx b = none ∨ Hf b ≠ none ∨ H b = none ∨ ∃ xs, H b = some (.tup xs) := fun b => by
      rcases x3 b with z | z | z
      · exact .inl z
      · rcases w'.new b with u | u
        · exact absurd u z
        · exact .inr u
      · exact .inr (.inr (.inl (hO b z).1))
    simp only at q
    cases hz : frzR t with
    | ok d =>
      rw [hz] at q
      have ef := frzR_eq hz
      have : SlOk K Hx H' (frz1 t) (some v) [] := by
        by_cases ht : frz1 t = t
        · rw [ht]
          rw [ht] at ef
          subst ef
          obtain ⟨_, u, e1, e2⟩ := ok
          exact ⟨rfl, u, e1, e2.mono x1⟩
        · exact new ht
      rw [ef] at this
      obtain ⟨_, u, e1, e2⟩ := this
      cases e1
      exact q v H' Hx ⟨w'.same0, w'.sub0.trans x1, x2, nb⟩ e2
    | exc c => rw [hz] at q; cases q.1
    | bad => rw [hz] at q; exact q.elim
  | exc c => rw [e] at q; cases q.1
  | brk _ => rw [e] at q; exact q.elim
  | ct _ => rw [e] at q; exact q.elim
  | bad => rw [e] at q; exact q.elim
theorem fn_okO {x qual : Str} {st : Stmt} {f : Addr} {fd : FuncData} {N ps : List Str} {k n : Nat} {body : En → Out} (F : Fun K x qual st f fd) (S : FnScope N ps (defScope st)) (hn : n = ps.length)
    (h : ∀ (cdv : Value) (A : Around) (outer : List Env) (s : Shared) (H : Hp) (E : XK), Room k (A.deeper (envOfC qual (defScope st) s.heap.objs.size f cdv)) →
      SVs (cxOf CX0 P w K mg base N qual (defScope st) f cdv A outer s H E).nox xq0 (defBody st) body) : FnOk P w K mg base CX0 (k + 1) f fd ps (spO K n (runO N.length body)) := by
  refine F.ok S (fun vs H Q E h => by rw [h.1, hn]) (fun cdv A outer s H vs Q E hr hsp => ⟨_, (h cdv A outer s H E hr).ps, ?_⟩)
  obtain ⟨_, Hf, ds, t, s1, r, e0, q⟩ := hsp
  refine ⟨H, Hf, _, Hf, start_wf s1 r, ?_⟩
  unfold runO at e0
  cases e : body (ds.map Sl.sh ++ List.replicate (N.length - ds.length) .no) with
  | rto t' =>
    rw [e] at e0
    cases e0
    exact fun v O Γ' σ' H' Hf' w' hO ok => q v O H' Hf' ⟨w'.same0, w'.sub0, w'.sub, w'.new⟩ hO ok
  | _ => rw [e] at e0; cases e0
end
end DL

/-! DL7: further rules. -/
namespace DL
open PySem PySem.Spec PyProof.Rows L2
section
variable {X : Cx} {xq : XQ} {a b c e o : Expr} {pos : Pos}
theorem ev_ch {op op' : CmpOp} {r r' : R2} {h h' : D → D → Option D} {f g k : En → Option D} (ho : OpR X (compareOp op) r) (hr : R2d X.K r h) (ho' : OpR X (compareOp op') r') (hr' : R2d X.K r' h') (ha : EV X a f) (hb : EV X b g) (hc : EV X c k)
    (hm : lastMarks [op, op'] [b, c] = false := by with_unfolding_all rfl) : EV X (.Compare a [op, op'] [b, c] pos) (eChain h h' f g k) :=
  ev_of (pe_chain ho ho' ha.pe hb.pe hc.pe hm) fun _ _ _ q => tChain_of hr hr' q
theorem tv_ch {op op' : CmpOp} {r r' : R2} {h h' : D → D → Option D} {f g k : En → Option D} (ho : OpR X (compareOp op) r) (hr : R2d X.K r h) (ho' : OpR X (compareOp op') r') (hr' : R2d X.K r' h') (ha : EV X a f) (hb : EV X b g) (hc : EV X c k)
    (hm : lastMarks [op, op'] [b, c] = false := by with_unfolding_all rfl) : TV X (.Compare a [op, op'] [b, c] pos) (tst (eChain h h' f g k)) :=
  ⟨PT.imp (pt_chain ho ho' ha.pe hb.pe hc.pe hm) fun _ _ _ q => tChain_of hr hr' (tE_tst q)⟩
/-- a < b < c < d -/
def eChain3 (h h' h2 : D → D → Option D) (f g k l : En → Option D) : En → Option D := fun Γ => (f Γ).bind fun d => (g Γ).bind fun e => (h d e).bind fun z => (isBl z).bind fun c =>
  if c = true then (k Γ).bind fun u => (h' e u).bind fun z2 => (isBl z2).bind fun c2 => if c2 = true then (l Γ).bind fun t => h2 u t else some (.bl false) else some (.bl false)
def tChain3 (r r' r2 : R2) (ta tb tc td : TE) : TE := fun σ H Q => ta σ H fun x H1 => tb σ H1 fun y H2 => r x y H2 fun z H3 => ∃ k, z = .bl k ∧
  (if k = true then tc σ H3 fun w' H4 => r' y w' H4 fun z2 H5 => ∃ k2, z2 = .bl k2 ∧ (if k2 = true then td σ H5 fun t H6 => r2 w' t H6 Q else Q (.bl false) H5) else Q (.bl false) H3)
theorem pe_chain3 {d : Expr} {op op' op2 : CmpOp} {r r' r2 : R2} {ta tb tc td : TE} (ho : OpR X (compareOp op) r) (ho' : OpR X (compareOp op') r') (ho2 : OpR X (compareOp op2) r2) (ha : PE X a ta) (hb : PE X b tb) (hc : PE X c tc) (hd : PE X d td)
    (hm : lastMarks [op, op', op2] [b, c, d] = false := by with_unfolding_all rfl) : PE X (.Compare a [op, op', op2] [b, c, d] pos) (tChain3 r r' r2 ta tb tc td) := by
  refine ⟨fun pins s σ H Q I h => ?_⟩
  refine Compare_chain (thn (ha.run pins s σ H _ I h) fun v s1 ⟨x, H1, I1, r1, q1⟩ => chain_link (thn (hb.run pins s1 σ H1 _ I1 q1) fun u s2 ⟨y, H2, I2, r2, q2⟩ =>
    thn (ho pins s2 σ H2 x y v u _ I2 r1 r2 q2) fun d s3 ⟨z, H3, I3, r3, k, e, q3⟩ => ?_)) hm
  subst e
  cases r3
  refine wpAny_truthy_bool ?_
  cases k with
  | false => exact ite_ff ⟨.bl false, H3, I3, rfl, q3⟩
  | true =>
    refine ite_tt (chain_link (thn (hc.run pins s3 σ H3 _ I3 q3) fun w' s4 ⟨z', H4, I4, r4, q4⟩ => thn (ho' pins s4 σ H4 y z' u w' _ I4 r2 r4 q4) fun d' s5 ⟨z5, H5, I5, r5, k2, e2, q5⟩ => ?_))
    subst e2
    cases r5
    refine wpAny_truthy_bool ?_
    cases k2 with
    | false => exact ite_ff ⟨.bl false, H5, I5, rfl, q5⟩
    | true => exact ite_tt (chain_last (thn (hd.run pins s5 σ H5 _ I5 q5) fun w2 s6 ⟨z6, H6, I6, r6, q6⟩ => ho2 pins s6 σ H6 z' z6 w' w2 Q I6 r4 r6 q6))
theorem pt_chain3 {d : Expr} {op op' op2 : CmpOp} {r r' r2 : R2} {ta tb tc td : TE} (ho : OpR X (compareOp op) r) (ho' : OpR X (compareOp op') r') (ho2 : OpR X (compareOp op2) r2) (ha : PE X a ta) (hb : PE X b tb) (hc : PE X c tc) (hd : PE X d td)
    (hm : lastMarks [op, op', op2] [b, c, d] = false := by with_unfolding_all rfl) : PT X (.Compare a [op, op', op2] [b, c, d] pos) (tTest (tChain3 r r' r2 ta tb tc td)) := by
  constructor
  intro pins s σ H Q I h
  refine isTrue_chain (thn (ha.run pins s σ H _ I h) ?_) hm
  rintro v s1 ⟨x, H1, I1, r1, q1⟩
  refine test_link (thn (hb.run pins s1 σ H1 _ I1 q1) ?_)
  rintro u s2 ⟨y, H2, I2, r2, q2⟩
  refine thn (ho pins s2 σ H2 x y v u _ I2 r1 r2 q2) ?_
  rintro d s3 ⟨z, H3, I3, r3, k, rfl, q3⟩
  cases r3
  refine wpAny_truthy_bool ?_
  cases k with
  | false =>
    obtain ⟨k', e', q'⟩ := q3
    cases e'
    exact ite_ff ⟨H3, I3, q'⟩
  | true =>
    refine ite_tt (test_link (thn (hc.run pins s3 σ H3 _ I3 q3) ?_))
    rintro w' s4 ⟨z', H4, I4, r4, q4⟩
    refine thn (ho' pins s4 σ H4 y z' u w' _ I4 r2 r4 q4) ?_
    rintro d' s5 ⟨z5, H5, I5, r5, k2, rfl, q5⟩
    cases r5
    refine wpAny_truthy_bool ?_
    cases k2 with
    | false =>
      obtain ⟨k', e', q'⟩ := q5
      cases e'
      exact ite_ff ⟨H5, I5, q'⟩
    | true =>
      refine ite_tt (test_last (thn (hd.run pins s5 σ H5 _ I5 q5) ?_))
      rintro w2 s6 ⟨z6, H6, I6, r6, q6⟩
      refine thn (ho2 pins s6 σ H6 z' z6 w' w2 _ I6 r4 r6 q6) ?_
      rintro d3 s7 ⟨z7, H7, I7, r7, k3, rfl, q7⟩
      cases r7
      exact wpAny_truthy_bool ⟨H7, I7, q7⟩
theorem tChain3_of {K : Fr} {f g k l : En → Option D} {h h' h2 : D → D → Option D} {r r' r2 : R2} (hr : R2d K r h) (hr' : R2d K r' h') (hr2 : R2d K r2 h2) {σ : L2.St} {H : Hp} {Q : VK} (q : tE K (eChain3 h h' h2 f g k l) σ H Q) :
    tChain3 r r' r2 (tE K f) (tE K g) (tE K k) (tE K l) σ H Q := by
  obtain ⟨Γ, Hf, z, w, e1, q⟩ := q
  obtain ⟨d, e2, e3⟩ := Option.bind_eq_some_iff.mp e1
  obtain ⟨e, e4, e5⟩ := Option.bind_eq_some_iff.mp e3
  obtain ⟨y, e6, e7⟩ := Option.bind_eq_some_iff.mp e5
  obtain ⟨c, e8, e9⟩ := Option.bind_eq_some_iff.mp e7
  have ey := isBl_eq e8
  subst ey
  refine ⟨Γ, Hf, d, w, e2, fun v H1 Hf1 x1 r1 => ?_⟩
  refine ⟨Γ, Hf1, e, w.ext x1, e4, fun u H2 Hf2 x2 r2 => ?_⟩
  refine hr d e _ e6 H2 Hf2 v u _ x2.2.2.1 (r1.mono x2.2.1) r2 fun w' H3 Hf3 x3 r3 => ⟨c, r3, ?_⟩
  cases c with
  | true =>
    rw [if_pos rfl] at e9 ⊢
    obtain ⟨u2, e10, e11⟩ := Option.bind_eq_some_iff.mp e9
    obtain ⟨z2, e12, e13⟩ := Option.bind_eq_some_iff.mp e11
    obtain ⟨c2, e14, e15⟩ := Option.bind_eq_some_iff.mp e13
    have ez := isBl_eq e14
    subst ez
    refine ⟨Γ, Hf3, u2, w.ext ((x1.trans x2).trans x3), e10, fun t H4 Hf4 x4 r4 => ?_⟩
    refine hr' e u2 _ e12 H4 Hf4 u t _ x4.2.2.1 (r2.mono (x3.2.1.trans x4.2.1)) r4 fun o H5 Hf5 x5 r5 => ⟨c2, r5, ?_⟩
    cases c2 with
    | true =>
      rw [if_pos rfl] at e15 ⊢
      obtain ⟨t2, e16, e17⟩ := Option.bind_eq_some_iff.mp e15
      refine ⟨Γ, Hf5, t2, w.ext ((((x1.trans x2).trans x3).trans x4).trans x5), e16, fun t6 H6 Hf6 x6 r6 => ?_⟩
      exact hr2 u2 t2 z e17 H6 Hf6 t t6 Q x6.2.2.1 (r4.mono (x5.2.1.trans x6.2.1)) r6 fun o H7 Hf7 x7 r7 => q o H7 Hf7 ((((((x1.trans x2).trans x3).trans x4).trans x5).trans x6).trans x7) r7
    | false =>
      rw [if_neg Bool.false_ne_true] at e15 ⊢
      cases e15
      exact q _ H5 Hf5 ((((x1.trans x2).trans x3).trans x4).trans x5) rfl
  | false =>
    rw [if_neg Bool.false_ne_true] at e9 ⊢
    cases e9
    exact q _ H3 Hf3 ((x1.trans x2).trans x3) rfl
theorem ev_ch3 {d : Expr} {op op' op2 : CmpOp} {r r' r2 : R2} {h h' h2 : D → D → Option D} {f g k l : En → Option D} (ho : OpR X (compareOp op) r) (hr : R2d X.K r h) (ho' : OpR X (compareOp op') r') (hr' : R2d X.K r' h') (ho2 : OpR X (compareOp op2) r2) (hr2 : R2d X.K r2 h2)
    (ha : EV X a f) (hb : EV X b g) (hc : EV X c k) (hd : EV X d l)
    (hm : lastMarks [op, op', op2] [b, c, d] = false := by with_unfolding_all rfl) : EV X (.Compare a [op, op', op2] [b, c, d] pos) (eChain3 h h' h2 f g k l) :=
  ev_of (pe_chain3 ho ho' ho2 ha.pe hb.pe hc.pe hd.pe hm) fun _ _ _ q => tChain3_of hr hr' hr2 q
theorem tv_ch3 {d : Expr} {op op' op2 : CmpOp} {r r' r2 : R2} {h h' h2 : D → D → Option D} {f g k l : En → Option D} (ho : OpR X (compareOp op) r) (hr : R2d X.K r h) (ho' : OpR X (compareOp op') r') (hr' : R2d X.K r' h') (ho2 : OpR X (compareOp op2) r2) (hr2 : R2d X.K r2 h2)
    (ha : EV X a f) (hb : EV X b g) (hc : EV X c k) (hd : EV X d l)
    (hm : lastMarks [op, op', op2] [b, c, d] = false := by with_unfolding_all rfl) : TV X (.Compare a [op, op', op2] [b, c, d] pos) (tst (eChain3 h h' h2 f g k l)) :=
  ⟨PT.imp (pt_chain3 ho ho' ho2 ha.pe hb.pe hc.pe hd.pe hm) fun _ _ _ q => tChain3_of hr hr' hr2 (tE_tst q)⟩
def eNeg (f : En → Option D) : En → Option D := fun Γ => (f Γ).bind fun d => (isInt d).map fun i => .int (-i)
theorem ev_neg {f : En → Option D} (h : EV X a f) : EV X (.UnaryOp .USub a pos) (eNeg f) := by
  refine ev_of (pe_un un_neg h.pe) fun σ H Q ⟨Γ, Hf, z, w, e1, q⟩ => ?_
  obtain ⟨d, e2, e3⟩ := Option.bind_eq_some_iff.mp e1
  obtain ⟨i, e4, e5⟩ := Option.map_eq_some_iff.mp e3
  have := isInt_eq e4
  subst this e5
  exact ⟨Γ, Hf, _, w, e2, fun v H1 Hf1 x r => ⟨i, r, q _ H1 Hf1 x rfl⟩⟩
/-- an owned list's item -/
def eOix (i : Nat) (f : En → Option D) : En → Option D := fun Γ => match gs Γ i, f Γ with
  | .ol ds, some (.int k) => atI ds k
  | _, _ => none
theorem ev_oix {i : Nat} {f : En → Option D} (ho : PE X o (tVar i)) (he : EV X e f) (hs : PlainIx e := by exact fun _ _ => rfl) : EV X (.Subscript o e pos) (eOix i f) := by
  refine ev_of (pe_ix ix_list ho he.pe hs) fun σ H Q ⟨Γ, Hf, z, w, e1, q⟩ => ?_
  unfold eOix at e1
  split at e1
  · rename_i ds k g1 g2
    obtain ⟨a, vs, h1, h2, h3, _⟩ := own_var w g1
    refine ⟨.ref a, h1, Γ, Hf, _, w, g2, fun v H1 Hf1 x r => ?_⟩
    obtain ⟨u, h4, h5⟩ := h3.atI e1
    exact ⟨a, vs, k, u, rfl, r, SqL.of (x.1 _ _ h2), h4, q u H1 Hf1 x (h5.mono x.2.1)⟩
  · cases e1
/-- len of an owned list -/
def eOlen (i : Nat) : En → Option D := fun Γ => match gs Γ i with
  | .ol ds => some (.int ds.length)
  | _ => none
/-- x[i] = v of an owned list -/
def sLset (i : Nat) (f g : En → Option D) : En → Out := fun Γ => match gs Γ i, f Γ, g Γ with
  | .ol ds, some (.int k), some d => (match ixN ds.length k with
    | some j => .nx (Γ.set i (.ol (ds.set j d)))
    | none => .bad)
  | _, _, _ => .bad
theorem sv_lset {i : Nat} {value : Expr} {pos' : Pos} {f g : En → Option D} (ho : PE X o (tVar i)) (he : EV X e f) (hv : EV X value g)
    (h : ∀ to ti te, PE X o to → PE X e ti → PE X value te → PS X (.Assign [.Subscript o e pos'] value pos) (tAsg te (gSub to ti rSetL))) : SV X xq (.Assign [.Subscript o e pos'] value pos) (sLset i f g) := by
  refine ⟨PS.imp (h _ _ _ ho he.pe hv.pe) fun Dn σ H ⟨H0, Hf0, Γ, Hf, w, q⟩ => ?_⟩
  unfold sLset at q
  split at q
  · rename_i ds k d g1 g2 g3
    split at q
    · rename_i j g4
      refine ⟨Γ, Hf, d, w.w0, g3, fun v H1 Hf1 x1 r1 => ?_⟩
      obtain ⟨a, vs, h1, h2, h3, _⟩ := own_var (w.ext x1) g1
      refine ⟨.ref a, h1, Γ, Hf1, _, (w.ext x1).w0, g2, fun kv H2 Hf2 x2 r2 => ?_⟩
      obtain ⟨a', vs', h1', h2', h3', h4'⟩ := own_var (w.ext (x1.trans x2)) g1
      rw [h1] at h1'; cases h1'
      refine ⟨a, vs', k, j, rfl, r2, h2', by rw [h3'.length]; exact g4, ?_⟩
      exact q σ _ Hf2 (h4' _ _ (h3'.set j (r1.mono x2.2.1)))
    · exact q.elim
  · exact q.elim
/-- the outer list stays owned, its rows are frozen -/
def half1 : Sl → Sl
  | .oll rows => .ol (rows.map D.lst)
  | s => s
/-- an empty list for each turn: x = [[] for y in range(n)] -/
def sRows (i : Nat) (f : En → Option D) : En → Out := fun Γ => match f Γ with
  | some (.int n) => if 0 ≤ n ∧ n ≤ 1000 then .nx (Γ.set i (.oll (List.replicate n.toNat []))) else .bad
  | _ => .bad
/-- list.index of ints -/
def idxI (ns : List Int) (k : Int) : Option Nat := ns.findIdx? (· == k)
def eIndex (f g : En → Option D) : En → Option D := fun Γ => (f Γ).bind fun d => (g Γ).bind fun e => match d, e with
  | .lst xs, .int k => (asInts xs).bind fun ns => (idxI ns k).map fun j => .int (j : Nat)
  | _, _ => none
theorem ev_index {g f : En → Option D} {apos : Pos} (ho : EV X o f) (he : EV X e g)
    (h : ∀ to te, PE X o to → PE X e te → PE X (.Call (.Attribute o "index" apos) [e] [] pos) (tBM X.K "list" (rIndex X.K) to (tCons te tNil))) : EV X (.Call (.Attribute o "index" apos) [e] [] pos) (eIndex f g) := by
  refine ev_of (h _ _ ho.pe he.pe) fun σ H Q ⟨Γ, Hf, z, w, e1, q⟩ => ?_
  obtain ⟨d, e2, e3⟩ := Option.bind_eq_some_iff.mp e1
  obtain ⟨k', e4, e5⟩ := Option.bind_eq_some_iff.mp e3
  refine ⟨Γ, Hf, d, w, e2, fun v H1 Hf1 x1 r1 => ?_⟩
  split at e5
  · rename_i xs k
    obtain ⟨ns, e6, e7⟩ := Option.bind_eq_some_iff.mp e5
    obtain ⟨j, e8, e9⟩ := Option.map_eq_some_iff.mp e7
    subst e9
    obtain ⟨a, vs, rfl, ha, rl⟩ := r1
    rw [asInts_eq e6] at rl
    rw [rl.ints_eq] at ha
    refine ⟨.inl ⟨rfl, _, SqL.of (x1.2.2.1 _ _ ha)⟩, Γ, Hf1, _, w.ext x1, e4, fun u H2 Hf2 x2 r2 => ?_⟩
    cases (show u = .int k from r2)
    obtain ⟨hj, hk, hno⟩ := List.findIdx?_eq_some_iff_getElem.mp e8
    refine ⟨a, ns.map V.int, .int k, j, .int ns[j], rfl, rfl, SqL.of (x2.1 _ _ (x1.2.2.1 _ _ ha)), rfl, by simp [flatV], by simp [hj], ?_, fun m z' hm hz => ?_, ?_⟩
    · have : ns[j] = k := by simpa using hk
      rw [this]; simp [eqV]
    · rw [List.getElem?_map] at hz
      obtain ⟨n, hn, rfl⟩ := Option.map_eq_some_iff.mp hz
      obtain ⟨hm', hn'⟩ := List.getElem?_eq_some_iff.mp hn
      have := hno m hm
      subst hn'
      simpa [eqV] using this
    · exact q _ H2 Hf2 (x1.trans x2) rfl
  · cases e5

theorem ev_glob {x : Str} {n : Int} (hg : Gl X x) (h : ∃ t, X.mg x = some (.int n t)) (hd : (x == ("__debug__" : Str)) = false := by decide) : EV X (.Name x pos) (eC (.int n)) := by
  obtain ⟨t, ht⟩ := h
  exact ev_c (v := V.int n) (pe_glob hg ht ⟨t, rfl⟩ hd) fun _ => rfl
theorem sv_setLc {elt tg iter : Expr} {ifs : List Expr} {scope : Scope} {own : List (Str × Nat)} {ts : List Nat} {i : Nat} {y : Str} {py spos : Pos} {f : En → Option (List D)} {b : Bd} {c : En → Option Bool} {g : En → Option D} (hc : X.calm = true) (hN : X.N.Nodup) (hy : X.N[i]? = some y) (hyl : X.env.scope.names.lookup y = some .local)
    (hsw : swapsWith (.ListComp elt [⟨tg, iter, ifs, 0⟩] scope pos) (some (.Name y py)) spos.line X.env = pure true) (hi : IV X tg iter f) (ok : BlkOk X.N X.env.scope scope own)
    (hg : ∀ (s : Shared) (H : Hp) (C : Addr) (cl : List (Str × Addr)) (fp : List Addr), GV (X.blk s H scope (compEnvC scope cl C X.env) fp) tg ts b) (ht : ∀ (s : Shared) (H : Hp) (C : Addr) (cl : List (Str × Addr)) (fp : List Addr), TsV (X.blk s H scope (compEnvC scope cl C X.env) fp) ifs c)
    (he : ∀ (s : Shared) (H : Hp) (C : Addr) (cl : List (Str × Addr)) (fp : List Addr), EV (X.blk s H scope (compEnvC scope cl C X.env) fp) elt g) (hs2 : ∀ i ∈ ts, i ∈ own.map (·.2) := by decide) (hs : ∀ x, foldedSetIterable iter X.env x = pure x := by intro _; rfl) :
    SV X xq (.Assign [.Name y py] (.ListComp elt [⟨tg, iter, ifs, 0⟩] scope pos) spos) (sSet i (eL (fComp (own.map (·.2)) f b c g))) := by
  refine ⟨PS.imp (ps_setLc (wi := tI X.K f) (g := tG X.K ts b) (tt := tT X.K c) (te := tE X.K g) hc hN hy hyl hsw hi.pi ok (fun s H C cl fp => (hg s H C cl fp).pg) (fun s H C cl fp => (ht s H C cl fp).pt) (fun s H C cl fp => (he s H C cl fp).pe) hs) fun Dn σ H q => ?_⟩
  refine tLc_of (ts := ts) hs2 (tF_of ?_)
  obtain ⟨Γ, Hf, d, w, e1, q2⟩ := sAsg_of (ts := [i]) q
  exact ⟨Γ, Hf, d, w, e1, fun v H' Hf' x r => by
    obtain ⟨H0, Hf0, Γ2, Hf2, d2, Γ3, w2, r2, e3, q3⟩ := q2 v H' Hf' x r
    cases e3
    exact q3 _ .one (w2.setSh r2)⟩
end
end DL

/-! DL8: lists of owned lists. -/
namespace DL
open PySem PySem.Spec PyProof.Rows L2
section
variable {K : Fr} {H0 Hf0 H Hf H' Hf' : Hp} {Γ : En} {σ : L2.St}
def halfAt : Nat → En → En
  | _, [] => []
  | 0, s :: r => half1 s :: r
  | n + 1, s :: r => s :: halfAt n r
theorem halfAt_get : ∀ (i : Nat) (Γ : En) (j : Nat), (halfAt i Γ)[j]? = if j = i then (Γ[j]?).map half1 else Γ[j]?
  | _, [], j => by simp [halfAt]
  | 0, s :: r, 0 => by simp [halfAt]
  | 0, s :: r, j + 1 => by simp [halfAt]
  | n + 1, s :: r, 0 => by simp [halfAt]
  | n + 1, s :: r, j + 1 => by simp [halfAt, halfAt_get n r j]
theorem halfAt_len : ∀ (i : Nat) (Γ : En), (halfAt i Γ).length = Γ.length
  | _, [] => by simp [halfAt]
  | 0, s :: r => rfl
  | n + 1, s :: r => by simp [halfAt, halfAt_len n r]
theorem Wf.half (w : Wf K H0 Hf0 Γ σ H Hf) (i : Nat) : ∃ Hf', Wf K H0 Hf0 (halfAt i Γ) σ H Hf' := by
  obtain ⟨ow, h1, h2, h3⟩ := w.own
  by_cases hP : ∃ rows, Γ[i]? = some (.oll rows)
  case neg =>
    refine ⟨Hf, ⟨w.sub, w.sub0, w.same0, w.new, by rw [halfAt_len]; exact w.len, ow, fun j t ht => ?_, h2, h3⟩⟩
    rw [halfAt_get] at ht
    by_cases hj : j = i
    · subst hj
      rw [if_pos rfl] at ht
      obtain ⟨s, e1, e2⟩ := Option.map_eq_some_iff.mp ht
      have : half1 s = s := by
        cases s <;> first | rfl | exact absurd ⟨_, e1⟩ hP
      rw [this] at e2
      subst e2
      exact h1 j s e1
    · rw [if_neg hj] at ht
      exact h1 j t ht
  obtain ⟨rows, es⟩ := hP
  obtain ⟨o, eo, a, bs, eO, eo', ha, r, nd⟩ := h1 i _ es
  classical
  let Hx : Hp := fun b => if b ∈ bs then H b else Hf b
  have hin : ∀ b ∈ bs, b ∈ ow i := fun b hb => by rw [eO]; simp [hb]
  have hx1 : Same Hf Hx := fun b u e => by
    show (if b ∈ bs then H b else Hf b) = _
    by_cases hb : b ∈ bs
    · rw [(h3 i b (hin b hb)).1] at e; cases e
    · rw [if_neg hb]; exact e
  have hx2 : Same Hx H := fun b u e => by
    have e' : (if b ∈ bs then H b else Hf b) = some u := e
    by_cases hb : b ∈ bs
    · rw [if_pos hb] at e'; exact e'
    · rw [if_neg hb] at e'; exact w.sub _ _ e'
  have hx3 : ∀ b ∈ bs, ∀ u, H b = some u → Hx b = some u := fun b hb u e => by
    show (if b ∈ bs then H b else Hf b) = _
    rw [if_pos hb]; exact e
  have new : SlOk K Hx H (.ol (rows.map D.lst)) o [a] := ⟨a, bs.map V.ref, rfl, eo', ha, r.rp hx1 hx3⟩
  have hna : a ∉ bs := (List.nodup_cons.mp nd).1
  refine ⟨Hx, ⟨hx2, w.sub0.trans hx1, w.same0, fun b => ?_, by rw [halfAt_len]; exact w.len, fun j => if j = i then [a] else ow j, fun j t ht => ?_, fun j k hjk c hc => ?_, fun j c hc => ?_⟩⟩
  · by_cases hb : b ∈ bs
    · exact .inr (.inr (.inl (h3 i b (hin b hb)).2.1))
    · rcases w.new b with q | q
      · exact .inl (by show (if b ∈ bs then H b else Hf b) = _; rw [if_neg hb]; exact q)
      · exact .inr q
  · rw [halfAt_get] at ht
    by_cases hj : j = i
    · subst hj
      rw [if_pos rfl, es] at ht
      cases ht
      refine ⟨o, eo, ?_⟩
      simp only [if_pos]
      exact new
    · rw [if_neg hj] at ht
      obtain ⟨u, e3, e4⟩ := h1 j t ht
      refine ⟨u, e3, ?_⟩
      simp only [if_neg hj]
      exact e4.ext hx1 fun a _ x hx => hx
  · have up : ∀ j, c ∈ (if j = i then [a] else ow j) → c ∈ ow j := fun j hm => by
      by_cases hj : j = i
      · subst hj; rw [if_pos rfl] at hm; rw [eO]; simp at hm; simp [hm]
      · rw [if_neg hj] at hm; exact hm
    intro hm
    exact h2 j k hjk c (up j hc) (up k hm)
  · by_cases hj : j = i
    · subst hj
      simp at hc
      subst hc
      obtain ⟨x, y, z⟩ := h3 j c (by rw [eO]; simp)
      refine ⟨?_, y, z⟩
      show (if c ∈ bs then H c else Hf c) = none
      rw [if_neg hna]; exact x
    · simp only [if_neg hj] at hc
      obtain ⟨x, y, z⟩ := h3 j c hc
      refine ⟨?_, y, z⟩
      show (if c ∈ bs then H c else Hf c) = none
      rw [if_neg fun hm => h2 j i hj c hc (hin c hm)]
      exact x
end
def sHalf (i : Nat) (s : En → Out) : En → Out := fun Γ => s (halfAt i Γ)
section
variable {X : Cx} {xq : XQ} {st : Stmt} {e o : Expr} {pos : Pos}
theorem sv_half {s : En → Out} (i : Nat) (h : SV X xq st s) : SV X xq st (sHalf i s) := ⟨PS.imp h.ps fun Dn σ H ⟨H0, Hf0, Γ, Hf, w, q⟩ => by
  obtain ⟨Hf', w'⟩ := w.half i
  exact ⟨H0, Hf0, _, Hf', w', q⟩⟩
theorem RowsAt.at {K : Fr} {Hf H : Hp} : ∀ {rows : List (List D)} {bs : List Addr} {j : Nat} {row : List D}, RowsAt K Hf H rows bs → rows[j]? = some row → ∃ b vs, bs[j]? = some b ∧ H b = some (.lst vs) ∧ RpL K Hf row vs
  | _, _, 0, _, .cons e r t, h => by simp at h; subst h; exact ⟨_, _, rfl, e, r⟩
  | _, _, j + 1, _, .cons e r t, h => by simpa using t.at (j := j) (by simpa using h)
  | _, _, _, _, .nil, h => by simp at h
theorem RowsAt.put {K : Fr} {Hf H : Hp} {ds : List D} {vs : List V} (rv : RpL K Hf ds vs) : ∀ {rows : List (List D)} {bs : List Addr} {j : Nat} {b : Addr}, RowsAt K Hf H rows bs → bs.Nodup → bs[j]? = some b → RowsAt K Hf (upd H b (.lst vs)) (rows.set j ds) bs
  | _, _, 0, b, .cons (b := c) e r t, nd, h => by
    simp at h; subst h
    refine .cons upd_same rv (t.ext (Same.refl _) fun d hd u hu => ?_)
    rw [upd_ne (show d ≠ c from fun z => (List.nodup_cons.mp nd).1 (z ▸ hd))]
    exact hu
  | _, _, j + 1, b, .cons (b := c) e r t, nd, h => by
    rw [List.getElem?_cons_succ] at h
    have hm := List.mem_of_getElem? h
    refine .cons ?_ r (RowsAt.put rv t (List.nodup_cons.mp nd).2 h)
    rw [upd_ne (show c ≠ b from fun z => (List.nodup_cons.mp nd).1 (z ▸ hm))]
    exact e
  | _, _, _, _, .nil, _, h => by simp at h
/-- x[f].append(g), the rows owned -/
def sRowApp (i : Nat) (f g : En → Option D) : En → Out := fun Γ => match gs Γ i, f Γ, g Γ with
  | .oll rows, some (.int k), some d => (match ixN rows.length k with
    | some j => (match rows[j]? with
      | some row => if row.length < 1000000 then .nx (Γ.set i (.oll (rows.set j (row ++ [d])))) else .bad
      | none => .bad)
    | none => .bad)
  | _, _, _ => .bad
theorem rows_var {K : Fr} {H0 Hf0 H Hf : Hp} {Γ : En} {σ : L2.St} {i : Nat} {rows : List (List D)} (w : Wf K H0 Hf0 Γ σ H Hf) (h : gs Γ i = .oll rows) : ∃ a bs, σ[i]? = some (some (.ref a)) ∧ H a = some (.lst (bs.map V.ref)) ∧ RowsAt K Hf H rows bs ∧
    ∀ (j : Nat) (b : Addr) (ds : List D) (vs : List V), bs[j]? = some b → RpL K Hf ds vs → Wf K H0 Hf0 (Γ.set i (.oll (rows.set j ds))) σ (upd H b (.lst vs)) Hf := by
  obtain ⟨o, O, e1, ⟨a, bs, eO, eo, ha, r, nd⟩, _, q⟩ := w.chg (gs_get h (fun z => nomatch z))
  subst eO eo
  refine ⟨a, bs, e1, ha, r, fun j b ds vs hb rv => q _ _ (fun c hc => upd_ne (fun z => hc ?_)) ⟨a, bs, rfl, rfl, ?_, r.put rv (List.nodup_cons.mp nd).2 hb, nd⟩⟩
  · subst z; exact List.mem_cons_of_mem _ (List.mem_of_getElem? hb)
  · rw [upd_ne (show a ≠ b from fun z => (List.nodup_cons.mp nd).1 (z ▸ List.mem_of_getElem? hb))]
    exact ha
theorem sv_rowApp {i : Nat} {x : Str} {ix : Expr} {pos2 p1 p2 : Pos} {f g : En → Option D} (ho : PE X o (tVar i)) (hi : EV X ix f) (he : EV X e g)
    (h : ∀ ti te, PE X ix ti → PE X e te → PS X (.Expr (.Call (.Attribute (.Subscript o ix p2) x p1) [e] [] pos2) pos) (tDrop (tBM X.K "list" rAppend (tOp (rIxL X.K) (tVar i) ti) (tCons te tNil)))) :
    SV X xq (.Expr (.Call (.Attribute (.Subscript o ix p2) x p1) [e] [] pos2) pos) (sRowApp i f g) := by
  refine ⟨PS.imp (h _ _ hi.pe he.pe) fun Dn σ H ⟨H0, Hf0, Γ, Hf, w, q⟩ => ?_⟩
  unfold sRowApp at q
  split at q
  · rename_i rows k d g1 g2 g3
    split at q
    · rename_i j g4
      split at q
      · rename_i row g5
        split at q
        · rename_i hl
          obtain ⟨a, bs, h1, h2, h3, _⟩ := rows_var w g1
          refine ⟨.ref a, h1, Γ, Hf, _, w.w0, g2, fun v H1 Hf1 x1 r1 => ?_⟩
          obtain ⟨a', bs', h1', h2', h3', _⟩ := rows_var (w.ext x1) g1
          rw [h1] at h1'; cases h1'
          obtain ⟨b, vs, h5, h6, h7⟩ := h3'.at g5
          have hat : atI (bs'.map V.ref) k = some (.ref b) := by
            unfold atI
            rw [List.length_map, h3'.length, g4]
            show (bs'.map V.ref)[j]? = _
            rw [List.getElem?_map, h5]; rfl
          refine ⟨a, _, k, .ref b, rfl, r1, SqL.of h2', hat, .inl ⟨rfl, vs, SqL.of h6⟩, Γ, Hf1, d, (w.ext x1).w0, g3, fun v2 H2 Hf2 x2 r2 => ?_⟩
          obtain ⟨a2, bs2, k1, k2, k3, k4⟩ := rows_var (w.ext (x1.trans x2)) g1
          rw [h1] at k1; cases k1
          have eb : bs2 = bs' := by
            have := x2.1 _ _ h2'
            rw [k2] at this
            have h8 := HO.lst.inj (Option.some.inj this)
            exact (List.map_inj_right (fun x y z => V.ref.inj z)).mp h8
          subst eb
          have hb2 := x2.1 _ _ h6
          refine ⟨b, vs, v2, rfl, rfl, hb2, ?_, ?_⟩
          · rw [h7.length, sizeLine_eq]; omega
          · exact q σ _ Hf2 (k4 j b _ _ h5 ((h7.mono x2.2.1).append (.one r2)))
        · exact q.elim
      · exact q.elim
    · exact q.elim
  · exact q.elim
/-- x = [[] for y in range(n)] -/
theorem tRows_of {i j : Nat} {vs : List Nat} {f : En → Option D} (hj : j ∈ vs) {Dn : Ends} {σ : L2.St} {H : Hp} (q : tS X.K xq (sRows i f) Dn σ H) :
    tLc (tI X.K (iR rg1 (aCons f aNil))) (tG X.K [j] (bN j)) (tT X.K bYes) (tLst tNil) vs σ H fun x H1 => gName i x σ H1 Dn.nx := by
  obtain ⟨H0, Hf0, Γ, Hf, w, q⟩ := q
  unfold sRows at q
  split at q
  case h_2 => exact q.elim
  rename_i n e1
  split at q
  case isFalse => exact q.elim
  rename_i hn
  refine ⟨Γ, Hf, rng 0 n.toNat, w.w0, by show ((aCons f aNil Γ).bind rg1) = _; unfold aCons aNil; rw [e1]; simp [rg1]; omega, fun J H1 Hf1 x ok Dd hD => ?_⟩
  have w1 := w.ext x
  have s1 : Same Hf1 H1 := x.2.2.1
  refine ⟨fun k m H => ∃ bs : List Addr, H Dd = some (.lst (bs.map V.ref)) ∧ bs.length = k ∧ (∀ b ∈ bs, H b = some (.lst []) ∧ H1 b = none) ∧ (Dd :: bs).Nodup ∧ Same H1 H ∧ m = n.toNat - k ∧ k ≤ n.toNat,
    ⟨n.toNat, [], upd_same, rfl, by simp, by simp, same_upd hD, by omega, by omega⟩, ?_⟩
  rintro k m H2 ⟨bs, h1, h2, h3, h4, h5, rfl, h7⟩
  have x2 : Ext H1 Hf1 H2 Hf1 := ⟨h5, Same.refl _, s1.trans h5, fun b => by
    cases z : Hf1 b with
    | none => exact .inl rfl
    | some _ => exact .inr (.inl (fun q => nomatch q))⟩
  obtain ⟨go, stop, yld⟩ := ok k H2 (s1.trans h5)
  rw [rng_len] at go stop
  by_cases hlt : k < n.toNat
  · refine .inr ⟨go hlt, fun H' => ∃ bs : List Addr, H' Dd = some (.lst (bs.map V.ref)) ∧ bs.length = k + 1 ∧ (∀ b ∈ bs, H' b = some (.lst []) ∧ H1 b = none) ∧ (Dd :: bs).Nodup ∧ Same H1 H', fun H' ⟨bs, a1, a2, a3, a4, a5⟩ => ⟨n.toNat - (k + 1), by omega, bs, a1, a2, a3, a4, a5, rfl, hlt⟩, fun y H' hy => ?_⟩
    obtain ⟨rfl, hr⟩ := yld y H' hy
    have hd : (rng 0 n.toNat)[k]? = some (.int (0 + (k : Nat))) := by
      unfold rng
      rw [List.getElem?_map, List.getElem?_range hlt]; rfl
    have w2 : W0 X.K (wipeE Γ vs) (L2.wipe σ vs) H' Hf1 := ((w1.w0.ext x2).wipe vs)
    refine ⟨_, _, _, Hf1, _, _, w2, hr _ hd, rfl, fun σ3 hb w3 => ⟨wipe_but (by simpa using hj) hb, _, Hf1, true, w3, rfl, fun H3 Hf3 x3 => ?_⟩⟩
    show if true = true then _ else _
    rw [if_pos rfl]
    refine ⟨Nat.zero_le _, fun p hp => ?_⟩
    have hpD : Dd ≠ p := ne_of_none (x3.1 _ _ h1) hp
    refine ⟨bs.map V.ref, by rw [upd_ne hpD]; exact x3.1 _ _ h1, ?_, bs ++ [p], ?_, ?_, fun b hb => ?_, ?_, fun b u hu => ?_⟩
    · rw [List.length_map, h2, sizeLine_eq]; omega
    · rw [upd_same, List.map_append]; rfl
    · simp [h2]
    · have hbD : b ≠ Dd := fun z => by
        subst z
        rcases List.mem_append.mp hb with hb | hb
        · exact (List.nodup_cons.mp h4).1 hb
        · simp at hb; exact hpD hb
      rw [upd_ne hbD]
      rcases List.mem_append.mp hb with hb | hb
      · obtain ⟨z1, z2⟩ := h3 b hb
        rw [upd_ne (ne_of_none (x3.1 _ _ z1) hp)]
        exact ⟨x3.1 _ _ z1, z2⟩
      · simp at hb
        subst hb
        exact ⟨upd_same, (h5.trans x3.1).free hp⟩
    · have hpb : p ∉ bs := fun hm => by
        have := x3.1 _ _ (h3 p hm).1
        rw [hp] at this; cases this
      rw [← List.cons_append]
      refine List.nodup_append.mpr ⟨h4, by simp, fun a ha b hb => ?_⟩
      simp at hb
      subst hb
      intro z
      subst z
      rcases List.mem_cons.mp ha with z | z
      · exact hpD z.symm
      · exact hpb z
    · rw [upd_ne (ne_of_none hu hD), upd_ne (ne_of_none (x3.1 _ _ (h5 _ _ hu)) hp)]
      exact x3.1 _ _ (h5 _ _ hu)
  · have ek : k = n.toNat := by omega
    refine .inl ⟨stop ek, ?_⟩
    have rows : ∀ bs : List Addr, (∀ b ∈ bs, H2 b = some (.lst []) ∧ H1 b = none) → RowsAt X.K Hf1 H2 (List.replicate bs.length []) bs := by
      intro bs
      induction bs with
      | nil => intro _; exact .nil
      | cons b r ih => intro h; exact .cons (h b (by simp)).1 rfl (ih fun c hc => h c (by simp [hc]))
    have hfn : ∀ b, H1 b = none → Hf1 b = none := fun b z => s1.free z
    refine q _ H2 Hf1 (w1.setOwn x2 (O := Dd :: bs) (fun b hb => ?_) ⟨Dd, bs, rfl, rfl, h1, ?_, h4⟩)
    · rcases List.mem_cons.mp hb with z | z
      · subst z; exact ⟨hD, hfn _ hD⟩
      · exact ⟨(h3 b z).2, hfn _ (h3 b z).2⟩
    · have := rows bs h3
      rw [h2, ek] at this
      exact this
end
end DL

/-! DL9: the combinators, applied; as rewriting rules. -/
namespace DL
open PySem PySem.Spec PyProof.Rows L2
def Out.seq (o : Out) (t : En → Out) : Out := match o with
  | .nx Γ => t Γ
  | o => o
def Out.res : Out → Res
  | .ret d _ => .ok d
  | .rto s => frzR s
  | .nx _ => .ok .non
  | .exc c => .exc c
  | _ => .bad
def brO (c : Option Bool) (s t : En → Out) (Γ : En) : Out := match c with
  | some true => s Γ
  | some false => t Γ
  | none => .bad
def brE {α : Type} (c : Bool) (x : Unit → Option α) (y : Unit → Option α) : Option α := if c = true then x () else y ()
section
variable {α β : Type} (Γ Γ' : En) (d e : D) (s t : En → Out) (f g k l : En → Option D) (c c' : En → Option Bool) (as : En → Option (List D)) (fs : En → Option (List D))
@[simp] theorem seq_nx : (Out.nx Γ).seq t = t Γ := rfl
@[simp] theorem seq_ret : (Out.ret d Γ).seq t = .ret d Γ := rfl
@[simp] theorem seq_rto (x : Sl) : (Out.rto x).seq t = .rto x := rfl
@[simp] theorem res_rto_oll (rows : List (List D)) : (Out.rto (.oll rows)).res = .ok (.lst (rows.map D.lst)) := rfl
@[simp] theorem seq_brk : (Out.brk Γ).seq t = .brk Γ := rfl
@[simp] theorem seq_ct : (Out.ct Γ).seq t = .ct Γ := rfl
@[simp] theorem seq_exc (c : Str) : (Out.exc c).seq t = .exc c := rfl
@[simp] theorem seq_bad : Out.bad.seq t = .bad := rfl
@[simp] theorem res_nx : (Out.nx Γ).res = .ok .non := rfl
@[simp] theorem res_ret : (Out.ret d Γ).res = .ok d := rfl
@[simp] theorem res_exc (c : Str) : (Out.exc c).res = .exc c := rfl
@[simp] theorem res_bad : Out.bad.res = .bad := rfl
theorem runD_eq (N : Nat) (b : En → Out) (ds : List D) : runD N b ds = (b (ds.map Sl.sh ++ List.replicate (N - ds.length) .no)).res := by
  unfold runD Out.res
  cases b (ds.map Sl.sh ++ List.replicate (N - ds.length) .no) <;> rfl
@[simp] theorem sSeq_ap : sSeq s t Γ = (s Γ).seq t := by unfold sSeq Out.seq; cases s Γ <;> rfl
@[simp] theorem sNil_ap : sNil Γ = .nx Γ := rfl
@[simp] theorem sPass_ap : sPass Γ = .nx Γ := rfl
@[simp] theorem br_t : brO (some true) s t Γ = s Γ := rfl
@[simp] theorem br_f : brO (some false) s t Γ = t Γ := rfl
@[simp] theorem br_n : brO none s t Γ = .bad := rfl
@[simp] theorem sIf_ap : sIf c s t Γ = brO (c Γ) s t Γ := rfl
@[simp] theorem brE_t (x y : Unit → Option α) : brE true x y = x () := rfl
@[simp] theorem brE_f (x y : Unit → Option α) : brE false x y = y () := rfl
def retO (o : Option D) (Γ : En) : Out := match o with
  | some d => .ret d Γ
  | none => .bad
@[simp] theorem retO_s : retO (some d) Γ = .ret d Γ := rfl
@[simp] theorem retO_n : retO none Γ = .bad := rfl
@[simp] theorem sRet_ap : sRet f Γ = retO (f Γ) Γ := rfl
@[simp] theorem sRetN_ap : sRetN Γ = .ret .non Γ := rfl
@[simp] theorem sExc_ap (c : Str) : sExc c Γ = .exc c := rfl
@[simp] theorem sBrk_ap : sBrk Γ = .brk Γ := rfl
@[simp] theorem sCt_ap : sCt Γ = .ct Γ := rfl
def setO (i : Nat) (o : Option D) (Γ : En) : Out := match o with
  | some d => .nx (Γ.set i (.sh d))
  | none => .bad
@[simp] theorem setO_s (i : Nat) : setO i (some d) Γ = .nx (Γ.set i (.sh d)) := rfl
@[simp] theorem setO_n (i : Nat) : setO i none Γ = .bad := rfl
@[simp] theorem sSet_ap (i : Nat) : sSet i f Γ = setO i (f Γ) Γ := by unfold sSet sAsg setO bN; cases f Γ <;> rfl
def asgO (b : Bd) (o : Option D) (Γ : En) : Out := match o with
  | some d => (match b d Γ with
    | some Γ' => .nx Γ'
    | none => .bad)
  | none => .bad
@[simp] theorem sAsg2_ap (i j : Nat) : sAsg f (b2 i j) Γ = asgO (b2 i j) (f Γ) Γ := rfl
@[simp] theorem asg2_s (i j : Nat) (x y : D) : asgO (b2 i j) (some (.tup [x, y])) Γ = .nx ((Γ.set i (.sh x)).set j (.sh y)) := rfl
def dropO (o : Option D) (Γ : En) : Out := match o with
  | some _ => .nx Γ
  | none => .bad
@[simp] theorem dropO_s : dropO (some d) Γ = .nx Γ := rfl
@[simp] theorem sDrop_ap : sDrop f Γ = dropO (f Γ) Γ := rfl
def ownO (i : Nat) (o : Option (List D)) (Γ : En) : Out := match o with
  | some ds => .nx (Γ.set i (.ol ds))
  | none => .bad
@[simp] theorem ownO_s (i : Nat) (ds : List D) : ownO i (some ds) Γ = .nx (Γ.set i (.ol ds)) := rfl
@[simp] theorem sOwn_ap (i : Nat) : sOwn i fs Γ = ownO i (fs Γ) Γ := rfl
@[simp] theorem sNewK_ap (i : Nat) : sNewK i Γ = .nx (Γ.set i (.ok [])) := rfl
@[simp] theorem sNewT_ap (i : Nat) : sNewT i Γ = .nx (Γ.set i (.ot [])) := rfl
def appO (i : Nat) (sl : Sl) (o : Option D) (Γ : En) : Out := match sl, o with
  | .ol ds, some d => if ds.length < 1000000 then .nx (Γ.set i (.ol (ds ++ [d]))) else .bad
  | _, _ => .bad
@[simp] theorem appO_s (i : Nat) (ds : List D) : appO i (.ol ds) (some d) Γ = if ds.length < 1000000 then .nx (Γ.set i (.ol (ds ++ [d]))) else .bad := rfl
@[simp] theorem sAppend_ap (i : Nat) : sAppend i f Γ = appO i (gs Γ i) (f Γ) Γ := by unfold sAppend appO; cases gs Γ i <;> cases f Γ <;> rfl
def extO (i : Nat) (sl : Sl) (o : Option D) (Γ : En) : Out := match sl, o with
  | .ol ds, some (.lst es) => if ds.length + es.length ≤ 1000000 then .nx (Γ.set i (.ol (ds ++ es))) else .bad
  | _, _ => .bad
@[simp] theorem extO_s (i : Nat) (ds es : List D) : extO i (.ol ds) (some (.lst es)) Γ = if ds.length + es.length ≤ 1000000 then .nx (Γ.set i (.ol (ds ++ es))) else .bad := rfl
@[simp] theorem sExtend_ap (i : Nat) : sExtend i f Γ = extO i (gs Γ i) (f Γ) Γ := by
  unfold sExtend extO
  cases gs Γ i <;> cases f Γ <;> first | rfl | (rename_i d; cases d <;> rfl)
def putO (i : Nat) (sl : Sl) (o v : Option D) (Γ : En) : Out := match sl, o, v with
  | .ok kvs, some (.int k), some d => if kvs.length < 1000000 then .nx (Γ.set i (.ok (pt kvs k d))) else .bad
  | .ot kvs, some (.tup xs), some d => (match asInts xs with
    | some k => if kvs.length < 1000000 then .nx (Γ.set i (.ot (pt kvs k d))) else .bad
    | none => .bad)
  | _, _, _ => .bad
@[simp] theorem sDput_ap (i : Nat) : sDput i f g Γ = putO i (gs Γ i) (f Γ) (g Γ) Γ := by
  unfold sDput putO
  cases gs Γ i <;> cases f Γ <;> cases g Γ <;> first | rfl | (rename_i d _; cases d <;> rfl) | (rename_i d; cases d <;> rfl)
@[simp] theorem putO_k (i : Nat) (kvs : List (Int × D)) (n : Int) : putO i (.ok kvs) (some (.int n)) (some d) Γ = if kvs.length < 1000000 then .nx (Γ.set i (.ok (pt kvs n d))) else .bad := rfl
theorem putO_t {i : Nat} {kvs : List (List Int × D)} {xs : List D} {n : List Int} (h : asInts xs = some n) : putO i (.ot kvs) (some (.tup xs)) (some d) Γ = if kvs.length < 1000000 then .nx (Γ.set i (.ot (pt kvs n d))) else .bad := by
  simp [putO, h]
@[simp] theorem putO_t2 (i : Nat) (kvs : List (List Int × D)) (a b : Int) : putO i (.ot kvs) (some (.tup [.int a, .int b])) (some d) Γ = if kvs.length < 1000000 then .nx (Γ.set i (.ot (pt kvs [a, b] d))) else .bad := rfl
def rowO (i : Nat) (sl : Sl) (o v : Option D) (Γ : En) : Out := match sl, o, v with
  | .oll rows, some (.int k), some d => (match ixN rows.length k with
    | some j => (match rows[j]? with
      | some row => if row.length < 1000000 then .nx (Γ.set i (.oll (rows.set j (row ++ [d])))) else .bad
      | none => .bad)
    | none => .bad)
  | _, _, _ => .bad
@[simp] theorem sRowApp_ap (i : Nat) : sRowApp i f g Γ = rowO i (gs Γ i) (f Γ) (g Γ) Γ := by
  unfold sRowApp rowO
  cases gs Γ i <;> cases f Γ <;> cases g Γ <;> first | rfl | (rename_i d _; cases d <;> rfl) | (rename_i d; cases d <;> rfl)
def rowsO (i : Nat) (o : Option D) (Γ : En) : Out := match o with
  | some (.int n) => if 0 ≤ n ∧ n ≤ 1000 then .nx (Γ.set i (.oll (List.replicate n.toNat []))) else .bad
  | _ => .bad
@[simp] theorem sRows_ap (i : Nat) : sRows i f Γ = rowsO i (f Γ) Γ := by unfold sRows rowsO; cases f Γ <;> rfl
@[simp] theorem rowsO_s (i : Nat) (n : Int) : rowsO i (some (.int n)) Γ = if 0 ≤ n ∧ n ≤ 1000 then .nx (Γ.set i (.oll (List.replicate n.toNat []))) else .bad := rfl
@[simp] theorem sFrz_ap (is : List Nat) : sFrz is s Γ = s (frzL is Γ) := rfl
@[simp] theorem frzL_nil : frzL [] Γ = Γ := rfl
@[simp] theorem frzL_cons (i : Nat) (is : List Nat) : frzL (i :: is) Γ = frzL is (frzAt i Γ) := rfl
@[simp] theorem frzAt_0 (x : Sl) : frzAt 0 (x :: Γ) = frz1 x :: Γ := rfl
@[simp] theorem frzAt_s (n : Nat) (x : Sl) : frzAt (n + 1) (x :: Γ) = x :: frzAt n Γ := rfl
@[simp] theorem frz1_ol (ds : List D) : frz1 (.ol ds) = .sh (.lst ds) := rfl
@[simp] theorem frz1_oll (rows : List (List D)) : frz1 (.oll rows) = .sh (.lst (rows.map D.lst)) := rfl
@[simp] theorem frz1_sh : frz1 (.sh d) = .sh d := rfl
@[simp] theorem frz1_no : frz1 .no = .no := rfl
@[simp] theorem frz1_ok (kvs : List (Int × D)) : frz1 (.ok kvs) = .ok kvs := rfl
def forO (b : Bd) (s : En → Out) (o : Option (List D)) (Γ : En) : Out := match o with
  | some ds => loopF b s ds Γ
  | none => .bad
@[simp] theorem sFor_ap (b : Bd) : sFor fs b s Γ = forO b s (fs Γ) Γ := rfl
@[simp] theorem forO_s (b : Bd) (ds : List D) : forO b s (some ds) Γ = loopF b s ds Γ := rfl
@[simp] theorem sWhile_ap (N : En → Nat) : sWhile N c s Γ = loopW c s (N Γ) Γ := rfl
def Out.loop (o : Out) (k : En → Out) : Out := match o with
  | .nx Γ => k Γ
  | .ct Γ => k Γ
  | .brk Γ => .nx Γ
  | o => o
@[simp] theorem loop_nx (k : En → Out) : (Out.nx Γ).loop k = k Γ := rfl
@[simp] theorem loop_ct (k : En → Out) : (Out.ct Γ).loop k = k Γ := rfl
@[simp] theorem loop_brk (k : En → Out) : (Out.brk Γ).loop k = .nx Γ := rfl
@[simp] theorem loop_ret (k : En → Out) : (Out.ret d Γ).loop k = .ret d Γ := rfl
@[simp] theorem loop_rto (k : En → Out) (x : Sl) : (Out.rto x).loop k = .rto x := rfl
@[simp] theorem loop_exc (k : En → Out) (c : Str) : (Out.exc c).loop k = .exc c := rfl
@[simp] theorem loop_bad (k : En → Out) : Out.bad.loop k = .bad := rfl
@[simp] theorem loopF_nil (b : Bd) : loopF b s [] Γ = .nx Γ := rfl
theorem loopF_cons (b : Bd) (r : List D) : loopF b s (d :: r) Γ = match b d Γ with
    | none => .bad
    | some Γ1 => (s Γ1).loop (loopF b s r) := by
  rw [loopF]
  cases b d Γ with
  | none => rfl
  | some Γ1 => simp only; unfold Out.loop; cases s Γ1 <;> rfl
theorem loopF_N (i : Nat) (r : List D) : loopF (bN i) s (d :: r) Γ = (s (Γ.set i (.sh d))).loop (loopF (bN i) s r) := by
  rw [loopF_cons]; rfl
theorem loopF_2 (i j : Nat) (x y : D) (r : List D) : loopF (b2 i j) s (.tup [x, y] :: r) Γ = (s ((Γ.set i (.sh x)).set j (.sh y))).loop (loopF (b2 i j) s r) := by
  rw [loopF_cons]; rfl
theorem loopW_succ (n : Nat) : loopW c s (n + 1) Γ = match c Γ with
    | none => .bad
    | some false => .nx Γ
    | some true => (s Γ).loop (loopW c s n) := by
  rw [loopW]
  cases c Γ with
  | none => rfl
  | some k => cases k <;> simp only; unfold Out.loop; cases s Γ <;> rfl
/-! expressions -/
@[simp] theorem gv_0 : gv (.sh d :: Γ) 0 = some d := rfl
@[simp] theorem gv_s (x : Sl) (n : Nat) : gv (x :: Γ) (n + 1) = gv Γ n := by cases x <;> rfl
@[simp] theorem gs_0 (x : Sl) : gs (x :: Γ) 0 = x := rfl
@[simp] theorem gs_s (x : Sl) (n : Nat) : gs (x :: Γ) (n + 1) = gs Γ n := rfl
@[simp] theorem eVar_ap (i : Nat) : eVar i Γ = gv Γ i := rfl
@[simp] theorem eC_ap : eC d Γ = some d := rfl
@[simp] theorem eOp_ap (h : D → D → Option D) : eOp h f g Γ = (f Γ).bind fun d => (g Γ).bind fun e => h d e := rfl
@[simp] theorem tst_ap : tst f Γ = (f Γ).bind isBl := rfl
@[simp] theorem isBl_b (b : Bool) : isBl (.bl b) = some b := rfl
@[simp] theorem isInt_i (i : Int) : isInt (.int i) = some i := rfl
@[simp] theorem bAnd_ap : bAnd c c' Γ = (c Γ).bind fun k => brE k (fun _ => c' Γ) (fun _ => some false) := rfl
@[simp] theorem bOr_ap : bOr c c' Γ = (c Γ).bind fun k => brE k (fun _ => some true) (fun _ => c' Γ) := rfl
@[simp] theorem bNot_ap : bNot c Γ = (c Γ).map (!·) := rfl
@[simp] theorem eAnd_ap : eAnd f g Γ = (f Γ).bind fun d => (isBl d).bind fun k => brE k (fun _ => g Γ) (fun _ => some (.bl false)) := rfl
@[simp] theorem eOr_ap : eOr f g Γ = (f Γ).bind fun d => (isBl d).bind fun k => brE k (fun _ => some (.bl true)) (fun _ => g Γ) := rfl
@[simp] theorem eNot_ap : eNot f Γ = (f Γ).bind fun d => (isBl d).map fun k => .bl (!k) := rfl
@[simp] theorem eIf_ap : eIf c f g Γ = (c Γ).bind fun k => brE k (fun _ => f Γ) (fun _ => g Γ) := rfl
@[simp] theorem eChain_ap (h h' : D → D → Option D) : eChain h h' f g k Γ = (f Γ).bind fun d => (g Γ).bind fun e => (h d e).bind fun z => (isBl z).bind fun c =>
  brE c (fun _ => (k Γ).bind fun u => h' e u) (fun _ => some (.bl false)) := rfl
@[simp] theorem eChain3_ap (h h' h2 : D → D → Option D) : eChain3 h h' h2 f g k l Γ = (f Γ).bind fun d => (g Γ).bind fun e => (h d e).bind fun z => (isBl z).bind fun c =>
  brE c (fun _ => (k Γ).bind fun u => (h' e u).bind fun z2 => (isBl z2).bind fun c2 => brE c2 (fun _ => (l Γ).bind fun t => h2 u t) (fun _ => some (.bl false))) (fun _ => some (.bl false)) := rfl
@[simp] theorem eNeg_ap : eNeg f Γ = (f Γ).bind fun d => (isInt d).map fun i => .int (-i) := rfl
@[simp] theorem aNil_ap : aNil Γ = some [] := rfl
@[simp] theorem aCons_ap : aCons f as Γ = (f Γ).bind fun d => (as Γ).map fun r => d :: r := rfl
@[simp] theorem eCB_ap (h : List D → Option D) : eCB h as Γ = (as Γ).bind h := rfl
@[simp] theorem fCB_ap (h : List D → Option (List D)) : fCB h as Γ = (as Γ).bind h := rfl
@[simp] theorem eCall_ap (G : List D → Res) : eCall G as Γ = (as Γ).bind fun ds => (G ds).get? := rfl
@[simp] theorem get_ok : (Res.ok d).get? = some d := rfl
@[simp] theorem eIsi_ap (T : String) : eIsi T f Γ = (f Γ).map fun d => .bl (isT T d) := rfl
@[simp] theorem eL_ap : eL fs Γ = (fs Γ).map D.lst := rfl
@[simp] theorem eTup_ap : eTup as Γ = (as Γ).bind fun ds => if ds.length ≤ 1000 then some (.tup ds) else none := rfl
@[simp] theorem eLst_ap : eLst as Γ = (as Γ).bind fun ds => if ds.length ≤ 1000 then some (.lst ds) else none := rfl
@[simp] theorem fLst_ap : fLst as Γ = (as Γ).bind fun ds => if ds.length ≤ 1000 then some ds else none := rfl
@[simp] theorem iL_ap : iL f Γ = (f Γ).bind isLst := rfl
@[simp] theorem iT_ap : iT f Γ = (f Γ).bind isTup := rfl
@[simp] theorem isLst_l (xs : List D) : isLst (.lst xs) = some xs := rfl
@[simp] theorem isLst_s (ns : List Int) : isLst (.scr ns) = some (ns.map D.int) := rfl
@[simp] theorem isTup_t (xs : List D) : isTup (.tup xs) = some xs := rfl
@[simp] theorem iR_ap (h : List D → Option (List D)) : iR h as Γ = (as Γ).bind h := rfl
@[simp] theorem rg1_i (j : Int) : rg1 [.int j] = if j ≤ 1000000 ∧ -1000000 ≤ j then some (rng 0 j.toNat) else none := rfl
@[simp] theorem rg2_i (i j : Int) : rg2 [.int i, .int j] = if j ≤ 1000000 ∧ -1000000 ≤ j ∧ i ≤ 1000000 ∧ -1000000 ≤ i then some (rng i (j - i).toNat) else none := rfl
@[simp] theorem eBor_ap (is : List Nat) : eBor is f Γ = (f (frzL is Γ)).bind fun d => if flatD d = true then some d else none := rfl
@[simp] theorem bBor_ap (is : List Nat) : bBor is c Γ = c (frzL is Γ) := rfl
@[simp] theorem flat_i (i : Int) : flatD (.int i) = true := rfl
@[simp] theorem flat_b (b : Bool) : flatD (.bl b) = true := rfl
@[simp] theorem flat_n : flatD .non = true := rfl
@[simp] theorem flat_x (x : Str) : flatD (.str x) = true := rfl
@[simp] theorem fComp_ap (vs : List Nat) (b : Bd) : fComp vs fs b c g Γ = (fs Γ).bind fun ds => if ds.length ≤ 1000000 then compF b c g (wipeE Γ vs) ds else none := rfl
@[simp] theorem bYes_ap : bYes Γ = some true := rfl
@[simp] theorem wipe_nil : wipeE Γ [] = Γ := rfl
@[simp] theorem wipe_cons (v : Nat) (vs : List Nat) : wipeE Γ (v :: vs) = (wipeE Γ vs).set v .no := rfl
@[simp] theorem eDin_ap (i : Nat) : eDin i f Γ = (f Γ).bind fun d => (dLook (gs Γ i) d).map fun o => .bl o.isSome := rfl
@[simp] theorem eDnin_ap (i : Nat) : eDnin i f Γ = (f Γ).bind fun d => (dLook (gs Γ i) d).map fun o => .bl (!o.isSome) := rfl
@[simp] theorem eDix_ap (i : Nat) : eDix i f Γ = (f Γ).bind fun d => (dLook (gs Γ i) d).bind id := rfl
@[simp] theorem eDget_ap (i : Nat) : eDget i f g Γ = (f Γ).bind fun d => (dLook (gs Γ i) d).bind fun o => (g Γ).map fun z => o.getD z := rfl
@[simp] theorem look_k (kvs : List (Int × D)) (n : Int) : dLook (.ok kvs) (.int n) = some (lk kvs n) := rfl
@[simp] theorem look_t2 (kvs : List (List Int × D)) (a b : Int) : dLook (.ot kvs) (.tup [.int a, .int b]) = some (lk kvs [a, b]) := rfl
def oixO (sl : Sl) (o : Option D) : Option D := match sl, o with
  | .ol ds, some (.int k) => atI ds k
  | _, _ => none
@[simp] theorem eOix_ap (i : Nat) : eOix i f Γ = oixO (gs Γ i) (f Γ) := rfl
@[simp] theorem oixO_s (ds : List D) (n : Int) : oixO (.ol ds) (some (.int n)) = atI ds n := rfl
/-! operators -/
@[simp] theorem dI_ii (h : Int → Int → D) (i j : Int) : dI h (.int i) (.int j) = some (h i j) := rfl
@[simp] theorem dAdd_ii (i j : Int) : dAdd (.int i) (.int j) = some (.int (i + j)) := rfl
@[simp] theorem dAdd_ll (xs ys : List D) : dAdd (.lst xs) (.lst ys) = if xs.length + ys.length ≤ 1000000 then some (.lst (xs ++ ys)) else none := rfl
@[simp] theorem dAdd_tt (xs ys : List D) : dAdd (.tup xs) (.tup ys) = if xs.length + ys.length ≤ 1000000 then some (.tup (xs ++ ys)) else none := rfl
@[simp] theorem dMod_ii (i j : Int) : dMod (.int i) (.int j) = if 0 < j then some (.int (i % j)) else none := rfl
@[simp] theorem dFdiv_ii (i j : Int) : dFdiv (.int i) (.int j) = if 0 < j ∧ j < 2 ^ 64 then some (.int (i / j)) else none := rfl
@[simp] theorem dMul_ii (i j : Int) : dMul (.int i) (.int j) = if (-(2 ^ 64) < i ∧ i < 2 ^ 64) ∨ (-(2 ^ 64) < j ∧ j < 2 ^ 64) then some (.int (i * j)) else none := rfl
@[simp] theorem dIx_l (xs : List D) (i : Int) : dIx (.lst xs) (.int i) = atI xs i := rfl
@[simp] theorem dIx_t (xs : List D) (i : Int) : dIx (.tup xs) (.int i) = atI xs i := rfl
@[simp] theorem dIx_s (ns : List Int) (i : Int) : dIx (.scr ns) (.int i) = (atI ns i).map D.int := rfl
@[simp] theorem dLen_l (xs : List D) : dLen [.lst xs] = some (.int xs.length) := rfl
@[simp] theorem dLen_t (xs : List D) : dLen [.tup xs] = some (.int xs.length) := rfl
@[simp] theorem dLen_s (ns : List Int) : dLen [.scr ns] = some (.int ns.length) := rfl
@[simp] theorem eqv_ii (i j : Int) : eqv (.int i) (.int j) = decide (i = j) := rfl
@[simp] theorem okN_i (n : Nat) (i : Int) : okN n (.int i) = true := by cases n <;> rfl
@[simp] theorem okN_b (n : Nat) (i : Bool) : okN n (.bl i) = true := by cases n <;> rfl
@[simp] theorem okN_n (n : Nat) : okN n .non = true := by cases n <;> rfl
@[simp] theorem okN_x (n : Nat) (x : Str) : okN n (.str x) = true := by cases n <;> rfl
@[simp] theorem okN_l (n : Nat) (xs : List D) : okN (n + 1) (.lst xs) = xs.all (okN n) := rfl
@[simp] theorem okN_t (n : Nat) (xs : List D) : okN (n + 1) (.tup xs) = xs.all (okN n) := rfl
@[simp] theorem okN_p (n : Nat) (p : Int × Int) : okN (n + 1) (encP p) = true := by simp [encP]
theorem dEq_ok (h1 : okN 9 d = true) (h2 : okN 9 e = true) : dEq d e = some (.bl (eqv d e)) := by unfold dEq; rw [if_pos ⟨h1, h2⟩]
theorem dNe_ok (h1 : okN 9 d = true) (h2 : okN 9 e = true) : dNe d e = some (.bl (!eqv d e)) := by unfold dNe; rw [if_pos ⟨h1, h2⟩]
theorem dEq_nil (xs : List D) : dEq (.lst xs) (.lst []) = some (.bl xs.isEmpty) := by
  unfold dEq
  cases xs with
  | nil => rfl
  | cons x r =>
    split
    · unfold eqv toPy
      simp [PyData.eqv, toPyL, PyData.eqvAll]
    · simp
@[simp] theorem dEq_ii (i j : Int) : dEq (.int i) (.int j) = some (.bl (decide (i = j))) := rfl
@[simp] theorem dNe_ii (i j : Int) : dNe (.int i) (.int j) = some (.bl (!decide (i = j))) := rfl
@[simp] theorem dLt_ii (i j : Int) : dLt (.int i) (.int j) = some (.bl (decide (i < j))) := rfl
@[simp] theorem dLe_ii (i j : Int) : dLe (.int i) (.int j) = some (.bl (decide (i ≤ j))) := rfl
@[simp] theorem dGt_ii (i j : Int) : dGt (.int i) (.int j) = some (.bl (decide (i > j))) := rfl
@[simp] theorem dGe_ii (i j : Int) : dGe (.int i) (.int j) = some (.bl (decide (i ≥ j))) := rfl
@[simp] theorem dSub_ii (i j : Int) : dSub (.int i) (.int j) = some (.int (i - j)) := rfl
@[simp] theorem dIs_n : dIs d .non = some (.bl (isNon d)) := by cases d <;> rfl
@[simp] theorem dIsNot_n : dIsNot d .non = some (.bl (!isNon d)) := by cases d <;> rfl
@[simp] theorem dIs_b (a b : Bool) : dIs (.bl a) (.bl b) = some (.bl (decide (a = b))) := rfl
@[simp] theorem dIsNot_b (a b : Bool) : dIsNot (.bl a) (.bl b) = some (.bl (!decide (a = b))) := rfl
@[simp] theorem dMax2_ii (i j : Int) : dMax2 [.int i, .int j] = some (.int (if j > i then j else i)) := rfl
@[simp] theorem dMin2_ii (i j : Int) : dMin2 [.int i, .int j] = some (.int (if j < i then j else i)) := rfl
@[simp] theorem dInt_i (i : Int) : dInt [.int i] = some (.int i) := rfl
@[simp] theorem dInt_b (b : Bool) : dInt [.bl b] = some (.int (if b then 1 else 0)) := rfl
@[simp] theorem dList_l (xs : List D) : dList [.lst xs] = some xs := rfl
@[simp] theorem dList_t (xs : List D) : dList [.tup xs] = some xs := rfl
@[simp] theorem dTuple_l (xs : List D) : dTuple [.lst xs] = some (.tup xs) := rfl
@[simp] theorem dTuple_t (xs : List D) : dTuple [.tup xs] = some (.tup xs) := rfl
@[simp] theorem asI_n : asInts [] = some [] := rfl
@[simp] theorem dSorted_i (ns : List Int) : dSorted [.lst (ns.map D.int)] = some ((srt ns).map D.int) := by simp [dSorted, asInts_ints]
theorem asInts_pairs : ∀ (ps : List (Int × Int)), ps ≠ [] → asInts (ps.map encP) = none
  | [], h => absurd rfl h
  | p :: ps, _ => rfl
@[simp] theorem dSorted_p (ps : List (Int × Int)) : dSorted [.lst (ps.map encP)] = some ((srtP ps).map encP) := by
  cases ps with
  | nil => simp [dSorted, srt, srtP]
  | cons p ps =>
    have h1 := asInts_pairs (p :: ps) (by simp)
    have h2 := asPairs_pairs (p :: ps)
    simp only [dSorted, h1, h2, Option.map_some]
@[simp] theorem dSum_i (ns : List Int) : dSum [.lst (ns.map D.int)] = some (.int ns.sum) := by simp [dSum, onInts, asInts_ints]
@[simp] theorem dMaxL_i (ns : List Int) : dMaxL [.lst (ns.map D.int)] = if ns = [] then none else some (.int (maxL ns)) := by simp [dMaxL, onInts, asInts_ints]
@[simp] theorem dMinL_i (ns : List Int) : dMinL [.lst (ns.map D.int)] = if ns = [] then none else some (.int (minL ns)) := by simp [dMinL, onInts, asInts_ints]
@[simp] theorem dAll_b (bs : List Bool) : dAll [.lst (bs.map D.bl)] = some (.bl (bs.all id)) := by simp [dAll, onBls, asBls_bls]
@[simp] theorem dAny_b (bs : List Bool) : dAny [.lst (bs.map D.bl)] = some (.bl (bs.any id)) := by simp [dAny, onBls, asBls_bls]
@[simp] theorem atI_0 {α : Type} (x : α) (xs : List α) : atI (x :: xs) 0 = some x := by simp [atI, ixN]
@[simp] theorem atI_1 {α : Type} (x y : α) (xs : List α) : atI (x :: y :: xs) 1 = some y := atI_nat (j := 1) rfl
@[simp] theorem isT_tuple_t (xs : List D) : isT "tuple" (.tup xs) = true := rfl
@[simp] theorem isT_list_l (xs : List D) : isT "list" (.lst xs) = true := rfl
@[simp] theorem isT_int_i (i : Int) : isT "int" (.int i) = true := rfl
@[simp] theorem isT_bool_i (i : Int) : isT "bool" (.int i) = false := rfl
theorem atI_nn {α : Type} {xs : List α} {j : Nat} (h : j < xs.length) : atI xs (j : Int) = some xs[j] := by
  rw [atI_nat (List.getElem?_eq_getElem h)]
end
end DL

/-! DL10: what is handed back with its ownership. -/
namespace DL
open PySem PySem.Spec PyProof.Rows L2
def tOw (K : Fr) (f : En → Option Sl) : TE := fun σ H Q => ∃ Γ Hf s, W0 K Γ σ H Hf ∧ f Γ = some s ∧ ∀ v O H' Hf', Ext H Hf H' Hf' → (∀ a ∈ O, H a = none ∧ Hf' a = none) → SlOk K Hf' H' s (some v) O → Q v H'
structure OwV (X : Cx) (e : Expr) (f : En → Option Sl) : Prop where
  pe : PE X e (tOw X.K f)
section
variable {X : Cx} {xq : XQ} {e o : Expr} {pos : Pos}
/-- a call of a def that hands back ownership -/
def owCall (g : List D → Option Sl) (a : En → Option (List D)) : En → Option Sl := fun Γ => (a Γ).bind g
theorem owv_call {CX : CXT} {k n : Nat} {f : Addr} {fd : FuncData} {ps : List Str} {g : List D → Option Sl} {E : XK} {x : Str} {p : Pos} {es : List Expr} {fa : En → Option (List D)} (F : FnOk X.prog X.w X.K X.mg X.base CX k f fd ps (spO X.K n g)) (hr : Room k X.A) (hg : Gl X x) (hm : X.mg x = some (.ref f)) (hk : PySem.W.keepIn X.K (.ref f) = true) (hb : Binds X.K fd ps []) (hx : Passes CX X E)
    (ha : AV X (e :: es) fa) (hn : ∀ Γ ds, fa Γ = some ds → ds.length = n) (hdb : (x == ("__debug__" : Str)) = false := by decide) (he : starEach (e :: es) X.env = (false, eval e X.env) :: starEach es X.env := by rfl) (hpl : (backTo pos (starEach es X.env)).any (·.1) = false := by rfl) :
    OwV X (.Call (.Name x p) (e :: es) [] pos) (owCall g fa) := by
  refine ⟨PE.imp (pe_call F hr hg hm hk hb .nil hx ha.pa hdb he hpl) fun σ H Q ⟨Γ, Hf, s, w, e1, q⟩ => ?_⟩
  obtain ⟨ds, e2, e3⟩ := Option.bind_eq_some_iff.mp e1
  refine ⟨Γ, Hf, ds, w, e2, fun vs H1 Hf1 x r1 => ?_⟩
  refine ⟨by rw [List.append_nil, r1.length]; exact hn _ _ e2, Hf1, ds, s, x.2.2.1, by rw [List.append_nil]; exact r1, e3, fun v O H' Hf' y hO ok => ?_⟩
  exact q v O H' Hf' (x.trans y) (fun a ha => ⟨x.1.free (hO a ha).1, (hO a ha).2⟩) ok
/-- return e -/
def sRetOw (f : En → Option Sl) : En → Out := fun Γ => match f Γ with
  | some s => .rto s
  | none => .bad
theorem sv_retOw {f : En → Option Sl} (he : OwV X e f) : SV X xq (.Return (some e) pos) (sRetOw f) := by
  refine ⟨PS.imp (ps_ret he.pe) fun D σ H ⟨H0, Hf0, Γ, Hf, w, q⟩ => ?_⟩
  unfold sRetOw at q
  cases e1 : f Γ with
  | none => rw [e1] at q; exact q.elim
  | some s =>
    rw [e1] at q
    exact ⟨Γ, Hf, s, w.w0, e1, fun v O H' Hf' x hO ok => q v O Γ σ H' Hf' (w.ext x) (fun a ha => ⟨w.same0.free (hO a ha).1, (hO a ha).2⟩) ok⟩
/-- return x, x a slot with ownership -/
def sRetO (i : Nat) : En → Out := fun Γ => match gs Γ i with
  | .no => .bad
  | s => .rto s
theorem sv_retO {i : Nat} (ho : PE X o (tVar i)) : SV X xq (.Return (some o) pos) (sRetO i) := by
  refine ⟨PS.imp (ps_ret ho) fun D σ H ⟨H0, Hf0, Γ, Hf, w, q⟩ => ?_⟩
  have key : ∀ s, gs Γ i = s → s ≠ .no → Post X.K H0 Hf0 xq D (.rto s) → tRet (tVar i) D σ H := fun s hs hn q => by
    obtain ⟨ow, h1, h2, h3⟩ := w.own
    obtain ⟨o, e1, ok⟩ := h1 i s (gs_get hs hn)
    have : ∃ v, o = some v := by
      cases s with
      | no => exact absurd rfl hn
      | sh d => obtain ⟨_, v, e, _⟩ := ok; exact ⟨v, e⟩
      | ol ds => obtain ⟨a, _, _, e, _⟩ := ok; exact ⟨_, e⟩
      | ok ds => obtain ⟨a, _, _, e, _⟩ := ok; exact ⟨_, e⟩
      | ot ds => obtain ⟨a, _, _, e, _⟩ := ok; exact ⟨_, e⟩
      | oll ds => obtain ⟨a, _, _, e, _⟩ := ok; exact ⟨_, e⟩
      | ow k d => obtain ⟨_, v, e, _⟩ := ok; exact ⟨_, e⟩
      | «at» a' => exact ⟨_, ok.2⟩
      | od a' ds => obtain ⟨_, _, e, _⟩ := ok; exact ⟨_, e⟩
    obtain ⟨v, rfl⟩ := this
    exact ⟨v, e1, q v (ow i) Γ σ H Hf w (fun a ha => ⟨(h3 i a ha).2.1, (h3 i a ha).1⟩) ok⟩
  unfold sRetO at q
  cases hs : gs Γ i with
  | no => rw [hs] at q; exact q.elim
  | _ => rw [hs] at q; exact key _ hs (fun z => nomatch z) q
/-- x = e -/
def sAsgOw (i : Nat) (f : En → Option Sl) : En → Out := fun Γ => match f Γ with
  | some s => .nx (Γ.set i s)
  | none => .bad
theorem sv_asgOw {i : Nat} {x : Str} {f : En → Option Sl} {pos' : Pos} (hN : X.N.Nodup) (hi : X.N[i]? = some x) (hx : Loc X.env.scope x) (he : OwV X e f) (hs : swapsWith e (some (.Name x pos')) pos.line X.env = pure false := by rfl) (hf : X.fn x = true ∨ X.env.scope.names.lookup x = some .local := by first | exact .inl rfl | exact .inr rfl | assumption) :
    SV X xq (.Assign [.Name x pos'] e pos) (sAsgOw i f) := by
  refine ⟨PS.imp (ps_set hN hi hx he.pe hs hf) fun Dn σ H ⟨H0, Hf0, Γ, Hf, w, q⟩ => ?_⟩
  unfold sAsgOw at q
  cases e1 : f Γ with
  | none => rw [e1] at q; exact q.elim
  | some s =>
    rw [e1] at q
    exact ⟨Γ, Hf, s, w.w0, e1, fun v O H' Hf' x hO ok => q _ H' Hf' (w.setOwn x hO ok)⟩
/-- x.append(e), e a fresh list, x a list of owned lists -/
def sOApp (i : Nat) (f : En → Option (List D)) : En → Out := fun Γ => match gs Γ i, f Γ with
  | .oll rows, some row => if rows.length < 1000000 then .nx (Γ.set i (.oll (rows ++ [row]))) else .bad
  | _, _ => .bad
theorem RowsAt.app {K : Fr} {Hf H : Hp} {ds : List D} {vs : List V} {b : Addr} : ∀ {rows : List (List D)} {bs : List Addr}, RowsAt K Hf H rows bs → H b = some (.lst vs) → RpL K Hf ds vs → RowsAt K Hf H (rows ++ [ds]) (bs ++ [b])
  | _, _, .nil, h1, h2 => .cons h1 h2 .nil
  | _, _, .cons e r t, h1, h2 => .cons e r (t.app h1 h2)
theorem Wf.grow {K : Fr} {H0 Hf0 H Hf H' Hf' : Hp} {Γ : En} {σ : L2.St} {i : Nat} {s s' : Sl} (w : Wf K H0 Hf0 Γ σ H Hf) (x : Ext H Hf H' Hf') (hs : Γ[i]? = some s) : ∃ o O, σ[i]? = some o ∧ SlOk K Hf' H' s o O ∧ (∀ a ∈ O, H a ≠ none) ∧
    ∀ (s' : Sl) (O' : List Addr) (H2 : Hp), (∀ a ∈ O', a ∈ O ∨ (H a = none ∧ Hf' a = none)) → (∀ b, b ∉ O' → H2 b = H' b) → (∀ a ∈ O, a ∈ O') → SlOk K Hf' H2 s' o O' → Wf K H0 Hf0 (Γ.set i s') σ H2 Hf' := by
  have w' := w.ext x
  obtain ⟨ow, h1, h2, h3⟩ := w.own
  obtain ⟨o, e1, e2⟩ := h1 i s hs
  have hi : i < Γ.length := (List.getElem?_eq_some_iff.mp hs).1
  have up : ∀ j a, a ∈ ow j → Hf' a = none ∧ H0 a = none ∧ H a ≠ none ∧ ∃ u, H' a = some u ∧ Mut (some u) ∧ ∀ xs, u ≠ .tup xs := fun j a ha => by
    obtain ⟨y, z, u, hu, mu, nt⟩ := h3 j a ha
    refine ⟨?_, z, by rw [hu]; exact (fun q => nomatch q), u, x.1 a u hu, mu, nt⟩
    rcases x.2.2.2 a with q | q | q | ⟨xs, q⟩
    · exact q
    · exact absurd y q
    · rw [q] at hu; cases hu
    · rw [q] at hu; cases hu; exact absurd rfl (nt xs)
  refine ⟨o, ow i, e1, e2.ext x.2.1 fun a _ u q => x.1 a u q, fun a ha => (up i a ha).2.2.1, fun s' O' H2 hO off sub new => ?_⟩
  have hO' : ∀ a ∈ O', Hf' a = none ∧ H0 a = none := fun a ha => by
    rcases hO a ha with z | ⟨z1, z2⟩
    · exact ⟨(up i a z).1, (up i a z).2.1⟩
    · exact ⟨z2, w.same0.free z1⟩
  have dis : ∀ j, j ≠ i → ∀ a ∈ ow j, a ∉ O' := fun j hj a ha hm => by
    rcases hO a hm with z | ⟨z1, _⟩
    · exact h2 j i hj a ha z
    · exact (up j a ha).2.2.1 z1
  refine ⟨fun b u hb => ?_, w'.sub0, fun b u hb => ?_, w'.new, by simpa using w.len, fun j => if j = i then O' else ow j, fun j t ht => ?_, fun j k hjk a ha => ?_, fun j a ha => ?_⟩
  · rw [off b fun hm => by rw [(hO' b hm).1] at hb; cases hb]; exact w'.sub _ _ hb
  · rw [off b fun hm => by rw [(hO' b hm).2] at hb; cases hb]; exact w'.same0 _ _ hb
  · by_cases hj : j = i
    · subst hj
      rw [List.getElem?_set_self hi] at ht
      cases ht
      refine ⟨o, e1, ?_⟩
      simp only [if_pos]
      exact new
    · rw [List.getElem?_set_ne (Ne.symm hj)] at ht
      obtain ⟨u, e3, e4⟩ := h1 j t ht
      refine ⟨u, e3, ?_⟩
      simp only [if_neg hj]
      exact e4.ext x.2.1 fun a ha y hy => by rw [off a (dis j hj a ha)]; exact x.1 _ _ hy
  · by_cases hj : j = i
    · subst hj
      simp only [if_pos] at ha
      simp only [if_neg (Ne.symm hjk)]
      intro hm
      exact dis k (Ne.symm hjk) a hm ha
    · simp only [if_neg hj] at ha
      by_cases hk : k = i
      · subst hk
        simp only [if_pos]
        exact dis j hj a ha
      · simp only [if_neg hk]
        exact h2 j k hjk a ha
  · by_cases hj : j = i
    · subst hj
      simp only [if_pos] at ha
      exact ⟨(hO' a ha).1, (hO' a ha).2, new.there a ha⟩
    · simp only [if_neg hj] at ha
      obtain ⟨y, z, _, v⟩ := up j a ha
      rw [off a (dis j hj a ha)]
      exact ⟨y, z, v⟩
theorem sv_oapp {i : Nat} {x : Str} {pos2 p1 : Pos} {f : En → Option (List D)} (ho : PE X o (tVar i)) (he : FV X e f)
    (h : ∀ te, PE X e te → PS X (.Expr (.Call (.Attribute o x p1) [e] [] pos2) pos) (tDrop (tBM X.K "list" rAppend (tVar i) (tCons te tNil)))) : SV X xq (.Expr (.Call (.Attribute o x p1) [e] [] pos2) pos) (sOApp i f) := by
  refine ⟨PS.imp (h _ he.pe) fun Dn σ H ⟨H0, Hf0, Γ, Hf, w, q⟩ => ?_⟩
  unfold sOApp at q
  split at q
  · rename_i rows row e1 e2
    split at q
    · rename_i hl
      obtain ⟨a, bs, h1, h2, h3, _⟩ := rows_var w e1
      refine ⟨.ref a, h1, .inl ⟨rfl, _, SqL.of h2⟩, Γ, Hf, row, w.w0, e2, fun b vs H1 Hf1 x hb hb1 hb2 r => ?_⟩
      obtain ⟨o, O, k1, ⟨a', bs', eO, eo, k2, k3, k4⟩, kn, k5⟩ := w.grow x (gs_get e1 (fun z => nomatch z)) (s' := .no)
      subst eO eo
      rw [h1] at k1; cases k1
      have hba : b ≠ a := fun z => by subst z; exact kn b (by simp) hb
      have hbb : b ∉ bs' := fun z => kn b (by simp [z]) hb
      refine ⟨a, bs'.map V.ref, .ref b, rfl, rfl, k2, ?_, ?_⟩
      · rw [List.length_map, k3.length, sizeLine_eq]; omega
      · refine q σ _ Hf1 (k5 (.oll (rows ++ [row])) (a :: (bs' ++ [b])) _ (fun c hc => ?_) (fun c hc => upd_ne (fun z => hc (by simp [z]))) (fun c hc => ?_) ⟨a, bs' ++ [b], rfl, rfl, ?_, ?_, ?_⟩)
        · rcases List.mem_cons.mp hc with z | z
          · exact .inl (by simp [z])
          · rcases List.mem_append.mp z with z | z
            · exact .inl (by simp [z])
            · simp at z; subst z; exact .inr ⟨hb, hb2⟩
        · rcases List.mem_cons.mp hc with z | z
          · simp [z]
          · simp [z]
        · rw [upd_same, List.map_append]; rfl
        · have hna : a ∉ bs' := (List.nodup_cons.mp k4).1
          refine RowsAt.app (k3.ext (Same.refl _) fun c hc u hu => ?_) ?_ r
          · rw [upd_ne (show c ≠ a from fun z => hna (z ▸ hc))]; exact hu
          · rw [upd_ne hba]; exact hb1
        · obtain ⟨n1, n2⟩ := List.nodup_cons.mp k4
          refine List.nodup_cons.mpr ⟨fun hm => ?_, List.nodup_append.mpr ⟨n2, by simp, fun c hc d hd => ?_⟩⟩
          · rcases List.mem_append.mp hm with z | z
            · exact n1 z
            · simp at z; exact hba z.symm
          · simp at hd; subst hd
            exact fun z => hbb (z ▸ hc)
    · exact q.elim
  · exact q.elim
end
/-- a comprehension of fresh lists -/
def compL (b : Bd) (c : En → Option Bool) (f : En → Option (List D)) (Γ : En) : List D → Option (List (List D))
  | [] => some []
  | d :: r => (b d Γ).bind fun Γ1 => (c Γ1).bind fun k => if k = true then (f Γ1).bind fun x => (compL b c f Γ r).map fun xs => x :: xs else compL b c f Γ r
def owComp (vs : List Nat) (f : En → Option (List D)) (b : Bd) (c : En → Option Bool) (elt : En → Option (List D)) : En → Option Sl := fun Γ => (f Γ).bind fun ds => if ds.length ≤ 1000000 then (compL b c elt (wipeE Γ vs) ds).map Sl.oll else none
theorem tLcO_of {K : Fr} {ts vs : List Nat} {f : En → Option (List D)} {b : Bd} {c : En → Option Bool} {g : En → Option (List D)} (hs : ∀ i ∈ ts, i ∈ vs) {σ : L2.St} {H : Hp} {Q : VK}
    (q : tOw K (owComp vs f b c g) σ H Q) : tLc (tI K f) (tG K ts b) (tT K c) (tF K g) vs σ H Q := by
  obtain ⟨Γ, Hf, s, w, e1, q⟩ := q
  obtain ⟨ds, e2, e3⟩ := Option.bind_eq_some_iff.mp e1
  by_cases hlen : ds.length ≤ 1000000
  case neg => rw [if_neg hlen] at e3; cases e3
  rw [if_pos hlen] at e3
  obtain ⟨rs, e3', es⟩ := Option.map_eq_some_iff.mp e3
  subst es
  refine ⟨Γ, Hf, ds, w, e2, fun J H1 Hf1 x ok Dd hD => ?_⟩
  have w1 : W0 K (wipeE Γ vs) (L2.wipe σ vs) H1 Hf1 := (w.ext x).wipe vs
  have hDf : Hf1 Dd = none := x.2.2.1.free hD
  let WW : Nat → Nat → Hp → Prop := fun i m H => ∃ Hf bs rs0 rest, Wf K (upd H00 Dd (.lst (bs.map V.ref))) Hf1 (wipeE Γ vs) (L2.wipe σ vs) H Hf ∧ (∀ a ∈ Dd :: bs, H1 a = none ∧ Hf a = none) ∧ RowsAt K Hf H rs0 bs ∧ (Dd :: bs).Nodup ∧ bs.length ≤ i ∧ m = ds.length - i ∧ i ≤ ds.length ∧ compL b c g (wipeE Γ vs) (ds.drop i) = some rest ∧ rs = rs0 ++ rest ∧
    Same H1 H ∧ Same Hf1 Hf ∧ ∀ b, Hf b = none ∨ Hf1 b ≠ none ∨ H1 b = none ∨ ∃ xs, H1 b = some (.tup xs)
  refine ⟨WW, ⟨ds.length, Hf1, [], [], rs, w1.rebase.laid hD, by simp; exact ⟨hD, hDf⟩, .nil, by simp, Nat.zero_le _, rfl, Nat.zero_le _, by rw [List.drop_zero]; exact e3', rfl, same_upd hD, Same.refl _, fun b => ?_⟩, ?_⟩
  · cases z : Hf1 b with
    | none => exact .inl rfl
    | some _ => exact .inr (.inl (fun q => nomatch q))
  rintro i m H2 ⟨Hf2, bs, rs0, rest, w2, hO2, r2, nd2, hl2, rfl, hi, e4, e5, s1, s2, s3⟩
  have hHD : H2 Dd = some (.lst (bs.map V.ref)) := w2.same0 _ _ upd_same
  obtain ⟨go, stop, yld⟩ := ok i H2 (s2.trans w2.sub)
  by_cases hlt : i < ds.length
  · refine .inr ⟨go hlt, fun H' => WW (i + 1) (ds.length - (i + 1)) H', fun H' z => ⟨_, by omega, z⟩, fun y H' hy => ?_⟩
    obtain ⟨rfl, hr⟩ := yld y H' hy
    have hd := List.getElem?_eq_getElem hlt
    rw [List.drop_eq_getElem_cons hlt] at e4
    unfold compL at e4
    obtain ⟨Γ1, e6, e7⟩ := Option.bind_eq_some_iff.mp e4
    obtain ⟨k, e8, e9⟩ := Option.bind_eq_some_iff.mp e7
    refine ⟨_, Hf1, wipeE Γ vs, Hf2, ds[i], Γ1, w2, (hr _ hd).mono s2, e6, fun σ3 hb w3 => ⟨wipe_but hs hb, Γ1, Hf2, k, w3.w0, e8, fun H3 Hf3 x3 => ?_⟩⟩
    have thereO : ∀ a ∈ Dd :: bs, ∃ vs, H' a = some (.lst vs) := fun a ha => by
      rcases List.mem_cons.mp ha with z | z
      · subst z; exact ⟨_, hHD⟩
      · exact r2.there a z
    have keep : ∀ {H4 Hf4 : Hp}, Ext H' Hf2 H4 Hf4 → (∀ a ∈ Dd :: bs, H1 a = none ∧ Hf4 a = none) ∧ H4 Dd = some (.lst (bs.map V.ref)) ∧ RowsAt K Hf4 H4 rs0 bs ∧ Same H1 H4 ∧ Same Hf1 Hf4 ∧ (∀ b, Hf4 b = none ∨ Hf1 b ≠ none ∨ H1 b = none ∨ ∃ xs, H1 b = some (.tup xs)) := fun {H4 Hf4} x4 => by
      refine ⟨fun a ha => ⟨(hO2 a ha).1, ?_⟩, x4.1 _ _ hHD, r2.ext x4.2.1 fun a _ u hu => x4.1 _ _ hu, s1.trans x4.1, s2.trans x4.2.1, fun b => ?_⟩
      · obtain ⟨ws, hw⟩ := thereO a ha
        rcases x4.2.2.2 a with z | z | z | ⟨xs, z⟩
        · exact z
        · exact absurd (hO2 a ha).2 z
        · rw [hw] at z; cases z
        · rw [hw] at z; cases z
      · rcases x4.2.2.2 b with z | z | z | ⟨xs, z⟩
        · exact .inl z
        · rcases s3 b with u | u | u
          · exact absurd u z
          · exact .inr (.inl u)
          · exact .inr (.inr u)
        · exact .inr (.inr (.inl (s1.free z)))
        · cases u : H1 b with
          | none => exact .inr (.inr (.inl rfl))
          | some o =>
            have := s1 b o u
            rw [z] at this; cases this
            exact .inr (.inr (.inr ⟨xs, rfl⟩))
    cases k with
    | true =>
      dsimp only
      rw [if_pos rfl] at e9 ⊢
      obtain ⟨y', e10, e11⟩ := Option.bind_eq_some_iff.mp e9
      obtain ⟨more, e12, e13⟩ := Option.map_eq_some_iff.mp e11
      refine ⟨Γ1, Hf3, y', (w3.ext x3).w0, e10, fun a vs' H4 Hf4 x4 ha ha1 ha2 r4 => ?_⟩
      have hn' : H' a = none := x3.1.free ha
      obtain ⟨k1, k2, k3, k4, k5, k6⟩ := keep (x3.trans x4)
      have haD : a ≠ Dd := fun z => by subst z; rw [hHD] at hn'; cases hn'
      have hab : a ∉ bs := fun z => by obtain ⟨ws, hw⟩ := r2.there a z; rw [hw] at hn'; cases hn'
      refine ⟨bs.map V.ref, k2, Nat.lt_of_le_of_lt (by rw [List.length_map]; exact hl2) (Nat.lt_of_lt_of_le hlt (Nat.le_trans hlen (by rw [sizeLine_eq]; decide))), ?_⟩
      have eapp : bs.map V.ref ++ [V.ref a] = (bs ++ [a]).map V.ref := by rw [List.map_append]; rfl
      rw [eapp]
      refine ⟨Hf4, bs ++ [a], rs0 ++ [y'], more, ((w2.ext (x3.trans x4)).poke rfl (k1 Dd (by simp)).2), fun c hc => ?_, RowsAt.app (k3.ext (Same.refl _) fun c hc u hu => ?_) (by rw [upd_ne haD]; exact ha1) r4, ?_, by simp; omega, rfl, hlt, e12, by rw [e5, ← e13]; simp, ?_, k5, k6⟩
      · rcases List.mem_cons.mp hc with z | z
        · exact k1 c (by simp [z])
        · rcases List.mem_append.mp z with z | z
          · exact k1 c (by simp [z])
          · simp at z; subst z; exact ⟨s1.free hn', ha2⟩
      · rw [upd_ne (show c ≠ Dd from fun z => (List.nodup_cons.mp nd2).1 (z ▸ hc))]; exact hu
      · obtain ⟨n1, n2⟩ := List.nodup_cons.mp nd2
        refine List.nodup_cons.mpr ⟨fun hm => ?_, List.nodup_append.mpr ⟨n2, by simp, fun c hc d hd => ?_⟩⟩
        · rcases List.mem_append.mp hm with z | z
          · exact n1 z
          · simp at z; exact haD z.symm
        · simp at hd; subst hd
          exact fun z => hab (z ▸ hc)
      · exact fun b o hb => by rw [upd_ne (ne_of_none hb hD)]; exact k4 b o hb
    | false =>
      dsimp only
      rw [if_neg Bool.false_ne_true] at e9 ⊢
      obtain ⟨k1, k2, k3, k4, k5, k6⟩ := keep x3
      exact ⟨Hf3, bs, rs0, rest, w2.ext x3, k1, k3, nd2, by omega, rfl, hlt, e9, e5, k4, k5, k6⟩
  · have e : i = ds.length := by omega
    refine .inl ⟨stop e, ?_⟩
    rw [e, List.drop_length] at e4
    have e4' : some [] = some rest := e4
    cases e4'
    rw [List.append_nil] at e5
    subst e5
    exact q (.ref Dd) (Dd :: bs) H2 Hf2 (x.trans ⟨s1, s2, w2.sub, s3⟩) (fun a ha => ⟨x.1.free (hO2 a ha).1, (hO2 a ha).2⟩) ⟨Dd, bs, rfl, rfl, hHD, r2, nd2⟩
section
variable {X : Cx} {elt tg iter : Expr} {ifs : List Expr} {scope : Scope} {pos : Pos}
theorem owv_lc {own : List (Str × Nat)} {ts : List Nat} {f : En → Option (List D)} {b : Bd} {c : En → Option Bool} {g : En → Option (List D)} (hc : X.calm = true) (hN : X.N.Nodup) (hi : IV X tg iter f) (ok : BlkOk X.N X.env.scope scope own)
    (hg : ∀ (s : Shared) (H : Hp) (C : Addr) (cl : List (Str × Addr)) (fp : List Addr), GV (X.blk s H scope (compEnvC scope cl C X.env) fp) tg ts b) (ht : ∀ (s : Shared) (H : Hp) (C : Addr) (cl : List (Str × Addr)) (fp : List Addr), TsV (X.blk s H scope (compEnvC scope cl C X.env) fp) ifs c)
    (he : ∀ (s : Shared) (H : Hp) (C : Addr) (cl : List (Str × Addr)) (fp : List Addr), FV (X.blk s H scope (compEnvC scope cl C X.env) fp) elt g) (hs2 : ∀ i ∈ ts, i ∈ own.map (·.2) := by decide) (hs : ∀ x, foldedSetIterable iter X.env x = pure x := by intro _; rfl) :
    OwV X (.ListComp elt [⟨tg, iter, ifs, 0⟩] scope pos) (owComp (own.map (·.2)) f b c g) :=
  ⟨PE.imp (pe_lc hc hN hi.pi ok (fun s H C cl fp => (hg s H C cl fp).pg) (fun s H C cl fp => (ht s H C cl fp).pt) (fun s H C cl fp => (he s H C cl fp).pe) hs) fun _ _ _ q => tLcO_of hs2 q⟩
end
/-! rewriting rules -/
section
variable (Γ : En)
def rtoO (o : Option Sl) : Out := match o with
  | some s => .rto s
  | none => .bad
@[simp] theorem rtoO_s (s : Sl) : rtoO (some s) = .rto s := rfl
@[simp] theorem sRetOw_ap (f : En → Option Sl) : sRetOw f Γ = rtoO (f Γ) := rfl
def rtoS (s : Sl) : Out := match s with
  | .no => .bad
  | s => .rto s
@[simp] theorem rtoS_oll (rows : List (List D)) : rtoS (.oll rows) = .rto (.oll rows) := rfl
@[simp] theorem rtoS_ol (rows : List D) : rtoS (.ol rows) = .rto (.ol rows) := rfl
@[simp] theorem sRetO_ap (i : Nat) : sRetO i Γ = rtoS (gs Γ i) := by unfold sRetO rtoS; cases gs Γ i <;> rfl
@[simp] theorem owCall_ap (g : List D → Option Sl) (a : En → Option (List D)) : owCall g a Γ = (a Γ).bind g := rfl
@[simp] theorem owComp_ap (vs : List Nat) (f : En → Option (List D)) (b : Bd) (c : En → Option Bool) (elt : En → Option (List D)) : owComp vs f b c elt Γ = (f Γ).bind fun ds => if ds.length ≤ 1000000 then (compL b c elt (wipeE Γ vs) ds).map Sl.oll else none := rfl
def asgW (i : Nat) (o : Option Sl) (Γ : En) : Out := match o with
  | some s => .nx (Γ.set i s)
  | none => .bad
@[simp] theorem asgW_s (i : Nat) (s : Sl) : asgW i (some s) Γ = .nx (Γ.set i s) := rfl
@[simp] theorem sAsgOw_ap (i : Nat) (f : En → Option Sl) : sAsgOw i f Γ = asgW i (f Γ) Γ := rfl
def oappO (i : Nat) (s : Sl) (o : Option (List D)) (Γ : En) : Out := match s, o with
  | .oll rows, some row => if rows.length < 1000000 then .nx (Γ.set i (.oll (rows ++ [row]))) else .bad
  | _, _ => .bad
@[simp] theorem oappO_s (i : Nat) (rows : List (List D)) (row : List D) : oappO i (.oll rows) (some row) Γ = if rows.length < 1000000 then .nx (Γ.set i (.oll (rows ++ [row]))) else .bad := rfl
@[simp] theorem sOApp_ap (i : Nat) (f : En → Option (List D)) : sOApp i f Γ = oappO i (gs Γ i) (f Γ) Γ := by
  unfold sOApp oappO; cases gs Γ i <;> cases f Γ <;> rfl
@[simp] theorem frzR_oll (rows : List (List D)) : frzR (.oll rows) = .ok (.lst (rows.map D.lst)) := rfl
@[simp] theorem frzR_ol (rows : List D) : frzR (.ol rows) = .ok (.lst rows) := rfl
@[simp] theorem res_rto (s : Sl) : (Out.rto s).res = frzR s := rfl
@[simp] theorem compF_nil (b : Bd) (c : En → Option Bool) (f : En → Option D) : compF b c f Γ [] = some [] := rfl
theorem compF_N (i : Nat) (c : En → Option Bool) (f : En → Option D) (d : D) (r : List D) : compF (bN i) c f Γ (d :: r) = (c (Γ.set i (.sh d))).bind fun k => if k = true then (f (Γ.set i (.sh d))).bind fun x => (compF (bN i) c f Γ r).map fun xs => x :: xs else compF (bN i) c f Γ r := rfl
theorem compF_2 (i j : Nat) (c : En → Option Bool) (f : En → Option D) (x y : D) (r : List D) : compF (b2 i j) c f Γ (.tup [x, y] :: r) = (c ((Γ.set i (.sh x)).set j (.sh y))).bind fun k => if k = true then (f ((Γ.set i (.sh x)).set j (.sh y))).bind fun x => (compF (b2 i j) c f Γ r).map fun xs => x :: xs else compF (b2 i j) c f Γ r := rfl
/-- a comprehension over coded things -/
theorem compF_map {α β : Type} {i : Nat} {c : En → Option Bool} {f : En → Option D} (enc : α → D) (dec : β → D) (p : α → Bool) (h : α → β) (xs : List α)
    (hc : ∀ x ∈ xs, c (Γ.set i (.sh (enc x))) = some (p x)) (hf : ∀ x ∈ xs, p x = true → f (Γ.set i (.sh (enc x))) = some (dec (h x))) : compF (bN i) c f Γ (xs.map enc) = some (((xs.filter p).map h).map dec) := by
  induction xs with
  | nil => rfl
  | cons x r ih =>
    rw [List.map_cons, compF_N, hc x (by simp)]
    have ih := ih (fun y hy => hc y (by simp [hy])) (fun y hy => hf y (by simp [hy]))
    cases e : p x with
    | true => simp [hf x (by simp) e, ih, e]
    | false => simp [ih, e]
theorem compL_map {α β : Type} {i : Nat} {c : En → Option Bool} {f : En → Option (List D)} (enc : α → D) (dec : β → List D) (p : α → Bool) (h : α → β) (xs : List α)
    (hc : ∀ x ∈ xs, c (Γ.set i (.sh (enc x))) = some (p x)) (hf : ∀ x ∈ xs, p x = true → f (Γ.set i (.sh (enc x))) = some (dec (h x))) : compL (bN i) c f Γ (xs.map enc) = some (((xs.filter p).map h).map dec) := by
  induction xs with
  | nil => rfl
  | cons x r ih =>
    have ih := ih (fun y hy => hc y (by simp [hy])) (fun y hy => hf y (by simp [hy]))
    rw [List.map_cons]
    show ((bN i (enc x) Γ).bind fun Γ1 => (c Γ1).bind fun k => if k = true then (f Γ1).bind fun x => (compL (bN i) c f Γ (r.map enc)).map fun xs => x :: xs else compL (bN i) c f Γ (r.map enc)) = _
    show ((c (Γ.set i (.sh (enc x)))).bind fun k => if k = true then (f (Γ.set i (.sh (enc x)))).bind fun x => (compL (bN i) c f Γ (r.map enc)).map fun xs => x :: xs else compL (bN i) c f Γ (r.map enc)) = _
    rw [hc x (by simp)]
    cases e : p x with
    | true => simp [hf x (by simp) e, ih, e]
    | false => simp [ih, e]
/-- a loop by its invariant -/
theorem loop_inv {α : Type} {i : Nat} {s : En → Out} (enc : α → D) (P : List α → En → Prop) : ∀ (rest pre : List α) (Γ : En), P pre Γ →
    (∀ pre x post Γ, pre ++ x :: post = pre ++ x :: post → P pre Γ → x ∈ rest ++ [x] → (∃ l, l ++ x :: post = rest) → ∃ Γ', (s (Γ.set i (.sh (enc x))) = .nx Γ' ∨ s (Γ.set i (.sh (enc x))) = .ct Γ') ∧ P (pre ++ [x]) Γ') → ∃ Γ', loopF (bN i) s (rest.map enc) Γ = .nx Γ' ∧ P (pre ++ rest) Γ'
  | [], pre, Γ, h, _ => ⟨Γ, rfl, by rw [List.append_nil]; exact h⟩
  | x :: r, pre, Γ, h, st => by
    obtain ⟨Γ', e, h'⟩ := st pre x r Γ rfl h (by simp) ⟨[], rfl⟩
    obtain ⟨Γ2, e2, h2⟩ := loop_inv enc P r (pre ++ [x]) Γ' h' fun pre' y post Γ3 a b c ⟨l, d⟩ => st pre' y post Γ3 a b (by simp) ⟨x :: l, by simp [d]⟩
    refine ⟨Γ2, ?_, by rw [List.append_assoc] at h2; exact h2⟩
    rw [List.map_cons, loopF_N]
    rcases e with e | e <;> rw [e] <;> exact e2
end
end DL

/-! DL11: trees that are owned down to a depth. -/
namespace DL
open PySem PySem.Spec PyProof.Rows L2
/-- no list inside -/
def noL : D → Bool
  | .non => true
  | .bl _ => true
  | .int _ => true
  | .str _ => true
  | .tup ds => ds.all fun d => flatD d
  | _ => false
def owD (k : Nat) : Sl → Option D
  | .ow j d => if j = k then some d else none
  | .oll rows => if k = 2 then some (.lst (rows.map D.lst)) else none
  | .ol ds => if k = 1 then some (.lst ds) else if k = 2 ∧ ds.all noL = true then some (.lst ds) else none
  | .sh d => if noL d = true then some d else none
  | _ => none
section
variable {K : Fr} {Hf H : Hp}
theorem OwnR.flat {k : Nat} {d : D} {v : V} (h : flatD d = true) (r : Rp K Hf d v) : OwnR K Hf H k d v [] := by
  cases k with
  | zero => exact ⟨rfl, r⟩
  | succ k => cases d <;> first | exact ⟨rfl, r⟩ | cases h
theorem OwnL.flat {R : D → V → List Addr → Prop} (i : ∀ d v, flatD d = true → Rp K Hf d v → R d v []) : ∀ {ds : List D} {vs : List V}, (ds.all fun d => flatD d) = true → RpL K Hf ds vs → OwnL R ds vs []
  | [], _, _, r => ⟨r, rfl⟩
  | d :: ds, _, h, ⟨v, r, e, q, t⟩ => by
    simp at h
    exact ⟨v, r, [], [], e, rfl, i _ _ h.1 q, OwnL.flat i (by simpa using h.2) t⟩
theorem OwnL.rep {R : D → V → List Addr → Prop} (i : ∀ d v, noL d = true → Rp K Hf d v → R d v []) : ∀ {ds : List D} {vs : List V}, (ds.all noL) = true → RpL K Hf ds vs → OwnL R ds vs []
  | [], _, _, r => ⟨r, rfl⟩
  | d :: ds, _, h, ⟨v, r, e, q, t⟩ => by
    simp at h
    exact ⟨v, r, [], [], e, rfl, i _ _ h.1 q, OwnL.rep i (by simpa using h.2) t⟩
theorem OwnL.zero : ∀ {ds : List D} {vs : List V}, RpL K Hf ds vs → OwnL (OwnR K Hf H 0) ds vs []
  | [], _, r => ⟨r, rfl⟩
  | d :: ds, _, ⟨v, r, e, q, t⟩ => ⟨v, r, [], [], e, rfl, ⟨rfl, q⟩, OwnL.zero t⟩
theorem OwnR.noL {k : Nat} {d : D} {v : V} (h : noL d = true) (r : Rp K Hf d v) : OwnR K Hf H k d v [] := by
  cases k with
  | zero => exact ⟨rfl, r⟩
  | succ k =>
    cases d with
    | tup ds => obtain ⟨a, vs, e, q, t⟩ := r; exact ⟨a, vs, e, q, OwnL.flat (fun d v h r => OwnR.flat h r) h t⟩
    | non => exact ⟨rfl, r⟩
    | bl b => exact ⟨rfl, r⟩
    | int i => exact ⟨rfl, r⟩
    | str x => exact ⟨rfl, r⟩
    | _ => cases h
theorem RowsAt.own : ∀ {rows : List (List D)} {bs : List Addr}, RowsAt K Hf H rows bs → OwnL (OwnR K Hf H 1) (rows.map D.lst) (bs.map V.ref) bs
  | _, _, .nil => ⟨rfl, rfl⟩
  | _, _, .cons (b := b) (bs := bs) e r t => ⟨_, _, [b], bs, rfl, rfl, ⟨b, _, [], rfl, rfl, e, OwnL.zero r⟩, RowsAt.own t⟩
theorem owD_ok {k : Nat} {s : Sl} {d : D} {o : Option V} {O : List Addr} (h : owD k s = some d) (ok : SlOk K Hf H s o O) : O.Nodup ∧ ∃ v, o = some v ∧ OwnR K Hf H k d v O := by
  cases s with
  | ow j d' =>
    simp only [owD] at h
    split at h
    · cases h; rename_i e; subst e; exact ok
    · cases h
  | oll rows =>
    simp only [owD] at h
    split at h
    · cases h; rename_i e; subst e
      obtain ⟨a, bs, eO, eo, ha, r, nd⟩ := ok
      exact ⟨by rw [eO]; exact nd, _, eo, a, _, bs, rfl, eO, ha, r.own⟩
    · cases h
  | ol ds =>
    obtain ⟨a, vs, eO, eo, ha, r⟩ := ok
    simp only [owD] at h
    split at h
    · cases h; rename_i e; subst e
      exact ⟨by rw [eO]; simp, _, eo, a, _, [], rfl, eO, ha, OwnL.zero r⟩
    · split at h
      · cases h; rename_i e
        obtain ⟨rfl, hn⟩ := e
        exact ⟨by rw [eO]; simp, _, eo, a, _, [], rfl, eO, ha, OwnL.rep (fun d v h r => OwnR.noL h r) hn r⟩
      · cases h
  | sh d' =>
    simp only [owD] at h
    split at h
    · cases h; rename_i e
      obtain ⟨eO, v, eo, r⟩ := ok
      exact ⟨by rw [eO]; simp, v, eo, by rw [eO]; exact OwnR.noL e r⟩
    · cases h
  | _ => cases h
end
/-! paths -/
def subD : D → List Nat → Option D
  | d, [] => some d
  | .lst ds, i :: p => (ds[i]?).bind (subD · p)
  | .tup ds, i :: p => (ds[i]?).bind (subD · p)
  | _, _ => none
def putD : D → List Nat → D → D
  | _, [], e => e
  | .lst ds, i :: p, e => .lst (match ds[i]? with | some d => ds.set i (putD d p e) | none => ds)
  | .tup ds, i :: p, e => .tup (match ds[i]? with | some d => ds.set i (putD d p e) | none => ds)
  | d, _, _ => d
def SubAt (H : Hp) : V → List Nat → V → Prop
  | v, [], w => w = v
  | v, i :: p, w => ∃ a vs u, v = .ref a ∧ (H a = some (.lst vs) ∨ H a = some (.tup vs)) ∧ vs[i]? = some u ∧ SubAt H u p w
theorem SubAt.snoc {H : Hp} {n : Nat} {w : V} : ∀ {p : List Nat} {v : V}, SubAt H v (p ++ [n]) w → ∃ a vs, SubAt H v p (.ref a) ∧ (H a = some (.lst vs) ∨ H a = some (.tup vs)) ∧ vs[n]? = some w
  | [], v, ⟨a, vs, u, e, h, g, t⟩ => by cases t; exact ⟨a, vs, e.symm, h, g⟩
  | i :: p, v, ⟨a, vs, u, e, h, g, t⟩ => by
    obtain ⟨b, us, k1, k2, k3⟩ := SubAt.snoc t
    exact ⟨b, us, ⟨a, vs, u, e, h, g, k1⟩, k2, k3⟩
def tPath (i : Nat) (p : List Nat) : TE := fun σ H Q => ∃ v w, σ[i]? = some (some v) ∧ SubAt H v p w ∧ Q w H
section
variable {X : Cx} {xq : XQ} {e o : Expr} {pos : Pos}
theorem pe_path0 {i : Nat} (h : PE X o (tVar i)) : PE X o (tPath i []) := PE.imp h fun σ H Q ⟨v, w, e1, e2, q⟩ => ⟨v, e1, by cases e2; exact q⟩
theorem pe_pathS {i n : Nat} {p : List Nat} {p1 p2 : Pos} (h : PE X o (tPath i p)) (j : Int) (hj : j = (n : Int) := by rfl) {x1 : Nat} : PE X (.Subscript o (.Constant (.int j) x1 p1) p2) (tPath i (p ++ [n])) := by
  refine PE.imp (pe_ix ix_seq h pe_int (fun _ _ => rfl)) fun σ H Q ⟨v, w, e1, e2, q⟩ => ?_
  obtain ⟨a, vs, k1, k2, k3⟩ := e2.snoc
  have hat : atI vs j = some w := by
    subst hj
    have hl : n < vs.length := (List.getElem?_eq_some_iff.mp k3).1
    unfold atI
    have : ixN vs.length (n : Int) = some n := by
      unfold ixN; simp; omega
    rw [this]; exact k3
  refine ⟨v, _, e1, k1, ?_⟩
  rcases k2 with k2 | k2
  · exact .inl ⟨a, vs, j, w, rfl, rfl, SqL.of k2, hat, q⟩
  · exact .inr (.inl ⟨a, vs, j, w, rfl, rfl, SqT.of k2, hat, q⟩)
end
/-! appending down a path -/
section
variable {K : Fr} {Hf H : Hp}
theorem OwnL.split {R : D → V → List Addr → Prop} : ∀ {ds : List D} {vs : List V} {O : List Addr} {i : Nat} {d : D}, OwnL R ds vs O → ds[i]? = some d → ∃ v A B C, vs[i]? = some v ∧ O = A ++ (B ++ C) ∧ R d v B ∧
    ∀ (R' : D → V → List Addr → Prop) (d' : D) (B' : List Addr), (∀ d v O', (∀ a ∈ O', a ∈ A ∨ a ∈ C) → R d v O' → R' d v O') → R' d' v B' → OwnL R' (ds.set i d') vs (A ++ (B' ++ C))
  | [], _, _, _, _, _, h => by simp at h
  | d :: ds, _, _, 0, _, ⟨v, r, O1, O2, e1, e2, h, t⟩, e => by
    simp at e; subst e
    exact ⟨v, [], O1, O2, by rw [e1]; rfl, by rw [e2]; rfl, h, fun R' d' B' i n => ⟨v, r, B', O2, e1, rfl, n, t.imp fun d v O' s => i d v O' fun a ha => .inr (s a ha)⟩⟩
  | d :: ds, _, _, i + 1, _, ⟨v, r, O1, O2, e1, e2, h, t⟩, e => by
    obtain ⟨w, A, B, C, k1, k2, k3, k4⟩ := OwnL.split t (i := i) (by simpa using e)
    refine ⟨w, O1 ++ A, B, C, by rw [e1]; simpa using k1, by rw [e2, k2]; simp, k3, fun R' d' B' j n => ⟨v, r, O1, A ++ (B' ++ C), e1, by simp, j _ _ _ (fun a ha => by simp [ha]) h, k4 R' d' B' (fun d v O' s => j d v O' fun a ha => ?_) n⟩⟩
    rcases s a ha with z | z
    · exact .inl (by simp [z])
    · exact .inr z
theorem OwnL.append {R : D → V → List Addr → Prop} {e : D} {v : V} {O' : List Addr} (h : R e v O') : ∀ {ds : List D} {vs : List V} {O : List Addr}, OwnL R ds vs O → OwnL R (ds ++ [e]) (vs ++ [v]) (O ++ O')
  | [], _, _, ⟨e1, e2⟩ => by subst e1 e2; exact ⟨v, [], O', [], rfl, by simp, h, rfl, rfl⟩
  | d :: ds, _, _, ⟨w, r, O1, O2, e1, e2, q, t⟩ => ⟨w, r ++ [v], O1, O2 ++ O', by rw [e1]; rfl, by rw [e2]; simp, q, OwnL.append h t⟩
theorem OwnL.length {R : D → V → List Addr → Prop} : ∀ {ds : List D} {vs : List V} {O : List Addr}, OwnL R ds vs O → vs.length = ds.length
  | [], _, _, ⟨e1, _⟩ => by rw [e1]; rfl
  | d :: ds, _, _, ⟨w, r, O1, O2, e1, e2, q, t⟩ => by rw [e1]; simp [OwnL.length t]
/-- the place of a list down a path -/
theorem OwnR.at {ds : List D} : ∀ {path : List Nat} {k : Nat} {d : D} {v : V} {O : List Addr}, OwnR K Hf H k d v O → path.length < k → subD d path = some (.lst ds) → Same Hf H → ∃ a vs, SubAt H v path (.ref a) ∧ H a = some (.lst vs) ∧ vs.length = ds.length ∧ a ∈ O
  | [], 0, _, _, _, _, h, _, _ => by simp at h
  | [], k + 1, d, v, O, r, h, e, s => by
    simp only [subD] at e; cases e
    obtain ⟨a, vs, O', e1, e2, e3, t⟩ := r
    exact ⟨a, vs, e1.symm, e3, t.length, by rw [e2]; simp⟩
  | i :: p, 0, d, v, O, r, h, e, s => by simp at h
  | i :: p, k + 1, .lst es, v, O, ⟨a, vs, O', e1, e2, e3, t⟩, h, e, s => by
    obtain ⟨d1, h1, h2⟩ := Option.bind_eq_some_iff.mp e
    obtain ⟨w, A, B, C, k1, k2, k3, _⟩ := t.split h1
    obtain ⟨b, us, g1, g2, g3, g4⟩ := OwnR.at k3 (by simpa using h) h2 s
    exact ⟨b, us, ⟨a, vs, w, e1, .inl e3, k1, g1⟩, g2, g3, by rw [e2, k2]; simp [g4]⟩
  | i :: p, k + 1, .tup es, v, O, ⟨a, vs, e1, e3, t⟩, h, e, s => by
    obtain ⟨d1, h1, h2⟩ := Option.bind_eq_some_iff.mp e
    obtain ⟨w, A, B, C, k1, k2, k3, _⟩ := t.split h1
    obtain ⟨b, us, g1, g2, g3, g4⟩ := OwnR.at k3 (by simpa using h) h2 s
    exact ⟨b, us, ⟨a, vs, w, e1, .inr (s _ _ e3), k1, g1⟩, g2, g3, by rw [k2]; simp [g4]⟩
  | i :: p, k + 1, .non, _, _, _, _, e, _ => by cases e
  | i :: p, k + 1, .bl _, _, _, _, _, e, _ => by cases e
  | i :: p, k + 1, .int _, _, _, _, _, e, _ => by cases e
  | i :: p, k + 1, .str _, _, _, _, _, e, _ => by cases e
  | i :: p, k + 1, .dct _, _, _, _, _, e, _ => by cases e
  | i :: p, k + 1, .emp, _, _, _, _, e, _ => by cases e
  | i :: p, k + 1, .scr _, _, _, _, _, e, _ => by cases e
theorem SubAt.fun {w w' : V} : ∀ {path : List Nat} {v : V}, SubAt H v path w → SubAt H v path w' → w = w'
  | [], _, a, b => by cases a; cases b; rfl
  | i :: p, _, ⟨a, vs, u, e1, e2, e3, t⟩, ⟨a', vs', u', k1, k2, k3, t'⟩ => by
    rw [e1] at k1; cases k1
    have : vs = vs' := by
      rcases e2 with e2 | e2 <;> rcases k2 with k2 | k2 <;> rw [e2] at k2 <;> cases k2 <;> rfl
    subst this
    rw [e3] at k3; cases k3
    exact SubAt.fun t t'
theorem SubAt.mono {H' : Hp} (s : Same H H') {w : V} : ∀ {path : List Nat} {v : V}, SubAt H v path w → SubAt H' v path w
  | [], _, a => a
  | i :: p, _, ⟨a, vs, u, e1, e2, e3, t⟩ => ⟨a, vs, u, e1, e2.imp (s _ _) (s _ _), e3, SubAt.mono s t⟩
/-- append down a path -/
theorem OwnR.app {ds : List D} {e : D} {u : V} {O' : List Addr} {a : Addr} {us : List V} (sub : Same Hf H) (ha : H a = some (.lst us)) : ∀ {path : List Nat} {k : Nat} {d : D} {v : V} {O : List Addr}, OwnR K Hf H k d v O → path.length < k → subD d path = some (.lst ds) → SubAt H v path (.ref a) →
    OwnR K Hf H (k - path.length - 1) e u O' → O.Nodup → O'.Nodup → (∀ c ∈ O, c ∉ O') → ∃ O2, OwnR K Hf (upd H a (.lst (us ++ [u]))) k (putD d path (.lst (ds ++ [e]))) v O2 ∧ O2.Nodup ∧ ∀ c, c ∈ O2 ↔ c ∈ O ∨ c ∈ O'
  | [], 0, _, _, _, _, h, _, _, _, _, _, _ => by simp at h
  | [], k + 1, d, v, O, r, h, he, st, en, n1, n2, dj => by
    simp only [subD] at he; cases he
    obtain ⟨b, vs, O1, e1, e2, e3, t⟩ := r
    rw [e1] at st; cases st
    rw [ha] at e3; cases e3
    subst e2
    obtain ⟨m1, m2⟩ := List.nodup_cons.mp n1
    have na' : a ∉ O' := dj a (by simp)
    have tr : ∀ d v O2, a ∉ O2 → OwnR K Hf H k d v O2 → OwnR K Hf (upd H a (.lst (us ++ [u]))) k d v O2 := fun d v O2 hn r => r.ext (Same.refl _) fun c hc w hw => by
      rw [upd_ne (show c ≠ a from fun z => hn (z ▸ hc))]; exact hw
    refine ⟨a :: (O1 ++ O'), ⟨a, _, O1 ++ O', e1, rfl, upd_same, OwnL.append (tr _ _ _ na' (by simpa using en)) (t.imp fun d v O2 s r => tr d v O2 (fun z => m1 (s _ z)) r)⟩, ?_, fun c => by simp [or_assoc]⟩
    refine List.nodup_cons.mpr ⟨by simp [m1, na'], List.nodup_append.mpr ⟨m2, n2, fun c hc d hd z => ?_⟩⟩
    subst z
    exact dj c (by simp [hc]) hd
  | i :: p, 0, d, v, O, r, h, he, st, en, n1, n2, dj => by simp at h
  | i :: p, k + 1, .lst es, v, O, ⟨b, vs, O1, e1, e2, e3, t⟩, h, he, ⟨b', vs', w', g1, g2, g3, st⟩, en, n1, n2, dj => by
    obtain ⟨d1, h1, h2⟩ := Option.bind_eq_some_iff.mp he
    obtain ⟨w, A, B, C, k1, k2, k3, k4⟩ := t.split h1
    rw [e1] at g1; cases g1
    have : vs' = vs := by
      rcases g2 with g2 | g2 <;> rw [e3] at g2 <;> cases g2 <;> rfl
    subst this
    rw [k1] at g3; cases g3
    subst e2 k2
    obtain ⟨m1, m2⟩ := List.nodup_cons.mp n1
    obtain ⟨mA, mBC, dA⟩ := List.nodup_append.mp m2
    obtain ⟨mB, mC, dB⟩ := List.nodup_append.mp mBC
    obtain ⟨x, vs2, f1, f2, f3, f4⟩ := OwnR.at k3 (by simpa using h) h2 sub
    have hx : a = x := V.ref.inj (SubAt.fun st f1)
    subst hx
    obtain ⟨B2, q1, q2, q3⟩ := OwnR.app sub ha k3 (by simpa using h) h2 st (by simpa using en) mB n2 (fun c hc => dj c (by simp [hc]))
    have hput : putD (.lst es) (i :: p) (.lst (ds ++ [e])) = .lst (es.set i (putD d1 p (.lst (ds ++ [e])))) := by simp [putD, h1]
    have tr : ∀ d v O2, a ∉ O2 → OwnR K Hf H k d v O2 → OwnR K Hf (upd H a (.lst (us ++ [u]))) k d v O2 := fun d v O2 hn r => r.ext (Same.refl _) fun c hc w hw => by
      rw [upd_ne (show c ≠ a from fun z => hn (z ▸ hc))]; exact hw
    have aA : a ∉ A := fun z => dA a z a (by simp [f4]) rfl
    have aC : a ∉ C := fun z => dB a f4 a z rfl
    have hba : b ≠ a := fun z => m1 (by subst z; simp [f4])
    refine ⟨b :: (A ++ (B2 ++ C)), ?_, ?_, fun c => ?_⟩
    · rw [hput]
      refine ⟨b, _, _, e1, rfl, by rw [upd_ne hba]; exact e3, k4 _ _ _ (fun d v O2 s r => tr d v O2 (fun z => ?_) r) q1⟩
      rcases s a z with z | z
      · exact aA z
      · exact aC z
    · have hq : ∀ c ∈ B2, c ∉ A ∧ c ∉ C ∧ c ≠ b := fun c hc => by
        rcases (q3 c).mp hc with z | z
        · exact ⟨fun y => dA c y c (by simp [z]) rfl, fun y => dB c z c y rfl, fun y => m1 (by subst y; simp [z])⟩
        · exact ⟨fun y => dj c (by simp [y]) z, fun y => dj c (by simp [y]) z, fun y => dj c (by simp [y]) z⟩
      refine List.nodup_cons.mpr ⟨fun hm => ?_, List.nodup_append.mpr ⟨mA, List.nodup_append.mpr ⟨q2, mC, fun c hc d hd z => (hq c hc).2.1 (z ▸ hd)⟩, fun c hc d hd z => ?_⟩⟩
      · rcases List.mem_append.mp hm with z | z
        · exact m1 (by simp [z])
        · rcases List.mem_append.mp z with z | z
          · exact (hq b z).2.2 rfl
          · exact m1 (by simp [z])
      · subst z
        rcases List.mem_append.mp hd with z | z
        · exact (hq c z).1 hc
        · exact dA c hc c (by simp [z]) rfl
    · simp only [List.mem_cons, List.mem_append, q3]
      clear k4 tr dA dB dj; grind
  | i :: p, k + 1, .tup es, v, O, ⟨b, vs, e1, e3, t⟩, h, he, ⟨b', vs', w', g1, g2, g3, st⟩, en, n1, n2, dj => by
    obtain ⟨d1, h1, h2⟩ := Option.bind_eq_some_iff.mp he
    obtain ⟨w, A, B, C, k1, k2, k3, k4⟩ := t.split h1
    rw [e1] at g1; cases g1
    have : vs' = vs := by
      have e3' := sub _ _ e3
      rcases g2 with g2 | g2 <;> rw [e3'] at g2 <;> cases g2 <;> rfl
    subst this
    rw [k1] at g3; cases g3
    subst k2
    obtain ⟨mA, mBC, dA⟩ := List.nodup_append.mp n1
    obtain ⟨mB, mC, dB⟩ := List.nodup_append.mp mBC
    obtain ⟨x, vs2, f1, f2, f3, f4⟩ := OwnR.at k3 (by simpa using h) h2 sub
    have hx : a = x := V.ref.inj (SubAt.fun st f1)
    subst hx
    obtain ⟨B2, q1, q2, q3⟩ := OwnR.app sub ha k3 (by simpa using h) h2 st (by simpa using en) mB n2 (fun c hc => dj c (by simp [hc]))
    have hput : putD (.tup es) (i :: p) (.lst (ds ++ [e])) = .tup (es.set i (putD d1 p (.lst (ds ++ [e])))) := by simp [putD, h1]
    have tr : ∀ d v O2, a ∉ O2 → OwnR K Hf H k d v O2 → OwnR K Hf (upd H a (.lst (us ++ [u]))) k d v O2 := fun d v O2 hn r => r.ext (Same.refl _) fun c hc w hw => by
      rw [upd_ne (show c ≠ a from fun z => hn (z ▸ hc))]; exact hw
    have aA : a ∉ A := fun z => dA a z a (by simp [f4]) rfl
    have aC : a ∉ C := fun z => dB a f4 a z rfl
    refine ⟨A ++ (B2 ++ C), ?_, ?_, fun c => ?_⟩
    · rw [hput]
      refine ⟨b, _, e1, e3, k4 _ _ _ (fun d v O2 s r => tr d v O2 (fun z => ?_) r) q1⟩
      rcases s a z with z | z
      · exact aA z
      · exact aC z
    · have hq : ∀ c ∈ B2, c ∉ A ∧ c ∉ C := fun c hc => by
        rcases (q3 c).mp hc with z | z
        · exact ⟨fun y => dA c y c (by simp [z]) rfl, fun y => dB c z c y rfl⟩
        · exact ⟨fun y => dj c (by simp [y]) z, fun y => dj c (by simp [y]) z⟩
      refine List.nodup_append.mpr ⟨mA, List.nodup_append.mpr ⟨q2, mC, fun c hc d hd z => (hq c hc).2 (z ▸ hd)⟩, fun c hc d hd z => ?_⟩
      subst z
      rcases List.mem_append.mp hd with z | z
      · exact (hq c z).1 hc
      · exact dA c hc c (by simp [z]) rfl
    · simp only [List.mem_append, q3]
      clear k4 tr dA dB dj; grind
  | i :: p, k + 1, .non, _, _, _, _, e, _, _, _, _, _ => by cases e
  | i :: p, k + 1, .bl _, _, _, _, _, e, _, _, _, _, _ => by cases e
  | i :: p, k + 1, .int _, _, _, _, _, e, _, _, _, _, _ => by cases e
  | i :: p, k + 1, .str _, _, _, _, _, e, _, _, _, _, _ => by cases e
  | i :: p, k + 1, .dct _, _, _, _, _, e, _, _, _, _, _ => by cases e
  | i :: p, k + 1, .emp, _, _, _, _, e, _, _, _, _, _ => by cases e
  | i :: p, k + 1, .scr _, _, _, _, _, e, _, _, _, _, _ => by cases e
end
/-! rules -/
def tOwA (K : Fr) (k : Nat) (f : En → Option (List D)) : TA := fun σ H Q => ∃ Γ Hf ds, W0 K Γ σ H Hf ∧ f Γ = some ds ∧ ∀ vs O H' Hf', Ext H Hf H' Hf' → (∀ a ∈ O, H a = none ∧ Hf' a = none) → O.Nodup → OwnL (OwnR K Hf' H' k) ds vs O → Q vs H'
structure OwA (X : Cx) (k : Nat) (es : List Expr) (f : En → Option (List D)) : Prop where
  pa : PA X es (tOwA X.K k f)
section
variable {X : Cx} {xq : XQ} {e o : Expr} {pos : Pos}
def owNil : En → Option (List D) := fun _ => some []
@[simp] theorem owNil_ap (Γ : En) : owNil Γ = some [] := rfl
theorem owa_nil {k : Nat} : OwA X k [] (owNil) := ⟨PA.imp pa_nil fun σ H Q ⟨Γ, Hf, ds, w, e1, q⟩ => by
  cases e1; exact q [] [] H Hf (Ext.refl w.sub) (by simp) (by simp) ⟨rfl, rfl⟩⟩
def owCons (k : Nat) (f : En → Option Sl) (g : En → Option (List D)) : En → Option (List D) := fun Γ => ((f Γ).bind (owD k)).bind fun d => (g Γ).map fun r => d :: r
theorem owa_cons {k : Nat} {es : List Expr} {f : En → Option Sl} {g : En → Option (List D)} (he : OwV X e f) (hr : OwA X k es g) (hs : starEach (e :: es) X.env = (false, eval e X.env) :: starEach es X.env := by rfl) : OwA X k (e :: es) (owCons k f g) := by
  refine ⟨PA.imp (pa_cons he.pe hr.pa hs) fun σ H Q ⟨Γ, Hf, ds, w, e1, q⟩ => ?_⟩
  obtain ⟨d, e2, e3⟩ := Option.bind_eq_some_iff.mp e1
  obtain ⟨s, e4, e5⟩ := Option.bind_eq_some_iff.mp e2
  obtain ⟨r, e6, e7⟩ := Option.map_eq_some_iff.mp e3
  subst e7
  refine ⟨Γ, Hf, s, w, e4, fun v O H1 Hf1 x hO ok => ⟨Γ, Hf1, r, w.ext x, e6, fun vs O2 H2 Hf2 x2 hO2 nd ol => ?_⟩⟩
  obtain ⟨nd1, v', ev, r1⟩ := owD_ok e5 ok
  cases ev
  have th := r1.there
  refine q _ (O ++ O2) H2 Hf2 (x.trans x2) (fun a ha => ?_) (List.nodup_append.mpr ⟨nd1, nd, fun a ha b hb z => ?_⟩) ⟨v, vs, O, O2, rfl, rfl, r1.ext x2.2.1 fun a _ u hu => x2.1 _ _ hu, ol⟩
  · rcases List.mem_append.mp ha with z | z
    · refine ⟨(hO a z).1, ?_⟩
      obtain ⟨us, hu⟩ := th a z
      rcases x2.2.2.2 a with y | y | y | ⟨xs, y⟩
      · exact y
      · exact absurd (hO a z).2 y
      · rw [hu] at y; cases y
      · rw [hu] at y; cases y
    · exact ⟨x.1.free (hO2 a z).1, (hO2 a z).2⟩
  · subst z
    obtain ⟨us, hu⟩ := th a ha
    rw [(hO2 a hb).1] at hu; cases hu
def owLst (k : Nat) (g : En → Option (List D)) : En → Option Sl := fun Γ => (g Γ).bind fun ds => if ds.length ≤ 1000 then some (.ow (k + 1) (.lst ds)) else none
def owTup (k : Nat) (g : En → Option (List D)) : En → Option Sl := fun Γ => (g Γ).bind fun ds => if ds.length ≤ 1000 then some (.ow (k + 1) (.tup ds)) else none
theorem owv_lst {k : Nat} {es : List Expr} {g : En → Option (List D)} (h : OwA X k es g) : OwV X (.List es pos) (owLst k g) := by
  refine ⟨PE.imp (pe_lst h.pa) fun σ H Q ⟨Γ, Hf, s, w, e1, q⟩ => ?_⟩
  obtain ⟨ds, e2, e3⟩ := Option.bind_eq_some_iff.mp e1
  split at e3
  · rename_i hl
    cases e3
    refine ⟨Γ, Hf, ds, w, e2, fun vs O H1 Hf1 x hO nd ol => ⟨by rw [ol.length]; exact line_of hl, fun p hp => ?_⟩⟩
    have hpO : p ∉ O := fun z => by
      obtain ⟨us, hu⟩ := OwnL.there (P := fun a => ∃ vs, H1 a = some (.lst vs)) ol (fun d v O2 r => OwnR.there r) p z
      rw [hp] at hu; cases hu
    have x1 : Ext H1 Hf1 (upd H1 p (.lst vs)) Hf1 := new_ext x.2.2.1 hp
    refine q _ (p :: O) _ Hf1 (x.trans x1) (fun a ha => ?_) ⟨List.nodup_cons.mpr ⟨hpO, nd⟩, _, rfl, p, vs, O, rfl, rfl, upd_same, ol.imp fun d v O' s r => r.ext (Same.refl _) fun c hc u hu => x1.1 _ _ hu⟩
    rcases List.mem_cons.mp ha with z | z
    · subst z; exact ⟨x.1.free hp, x.2.2.1.free hp⟩
    · exact hO a z
  · cases e3
theorem owv_tup {k : Nat} {es : List Expr} {x1 : Nat} {g : En → Option (List D)} (h : OwA X k es g) : OwV X (.Tuple es x1 pos) (owTup k g) := by
  refine ⟨PE.imp (pe_tup h.pa) fun σ H Q ⟨Γ, Hf, s, w, e1, q⟩ => ?_⟩
  obtain ⟨ds, e2, e3⟩ := Option.bind_eq_some_iff.mp e1
  split at e3
  · rename_i hl
    cases e3
    refine ⟨Γ, Hf, ds, w, e2, fun vs O H1 Hf1 x hO nd ol => ⟨by rw [ol.length]; exact line_of hl, fun p hp => ?_⟩⟩
    have hpO : p ∉ O := fun z => by
      obtain ⟨us, hu⟩ := OwnL.there (P := fun a => ∃ vs, H1 a = some (.lst vs)) ol (fun d v O2 r => OwnR.there r) p z
      rw [hp] at hu; cases hu
    have x1 : Ext H1 Hf1 (upd H1 p (.tup vs)) (upd Hf1 p (.tup vs)) := Ext.new x.2.2.1 hp
    refine q _ O _ _ (x.trans x1) (fun a ha => ⟨(hO a ha).1, ?_⟩) ⟨nd, _, rfl, p, vs, rfl, upd_same, ol.imp fun d v O' s r => r.ext (same_upd (x.2.2.1.free hp)) fun c hc u hu => x1.1 _ _ hu⟩
    rw [upd_ne (show a ≠ p from fun z => hpO (z ▸ ha))]
    exact (hO a ha).2
  · cases e3
theorem owv_ev {f : En → Option D} (h : EV X e f) : OwV X e (fun Γ => (f Γ).map Sl.sh) := ⟨PE.imp h.pe fun σ H Q ⟨Γ, Hf, s, w, e1, q⟩ => by
  obtain ⟨d, e2, e3⟩ := Option.map_eq_some_iff.mp e1
  subst e3
  exact ⟨Γ, Hf, d, w, e2, fun v H' Hf' x r => q v [] H' Hf' x (by simp) ⟨rfl, v, rfl, r⟩⟩⟩
theorem owv_fv {f : En → Option (List D)} (h : FV X e f) : OwV X e (fun Γ => (f Γ).map Sl.ol) := ⟨PE.imp h.pe fun σ H Q ⟨Γ, Hf, s, w, e1, q⟩ => by
  obtain ⟨ds, e2, e3⟩ := Option.map_eq_some_iff.mp e1
  subst e3
  exact ⟨Γ, Hf, ds, w, e2, fun a vs H' Hf' x n h hn r => q _ [a] H' Hf' x (fun b hb => by simp at hb; subst hb; exact ⟨n, hn⟩) ⟨a, vs, rfl, rfl, h, r⟩⟩⟩
/-- x[..][..].append(e) down an owned tree -/
def sOwApp (i : Nat) (path : List Nat) (f : En → Option Sl) : En → Out := fun Γ => match gs Γ i, f Γ with
  | .ow k d, some s => (match owD (k - path.length - 1) s, subD d path with
    | some e, some (.lst ds) => if path.length < k ∧ ds.length < 1000000 then .nx (Γ.set i (.ow k (putD d path (.lst (ds ++ [e]))))) else .bad
    | _, _ => .bad)
  | _, _ => .bad
theorem sv_owApp {i : Nat} {path : List Nat} {x : Str} {pos2 p1 : Pos} {f : En → Option Sl} (ho : PE X o (tPath i path)) (he : OwV X e f)
    (h : ∀ te, PE X e te → PS X (.Expr (.Call (.Attribute o x p1) [e] [] pos2) pos) (tDrop (tBM X.K "list" rAppend (tPath i path) (tCons te tNil)))) : SV X xq (.Expr (.Call (.Attribute o x p1) [e] [] pos2) pos) (sOwApp i path f) := by
  refine ⟨PS.imp (h _ he.pe) fun Dn σ H ⟨H0, Hf0, Γ, Hf, w, q⟩ => ?_⟩
  unfold sOwApp at q
  split at q
  case h_2 => exact q.elim
  rename_i k d s e1 e2
  split at q
  case h_2 => exact q.elim
  rename_i e' ds e3 e4
  split at q
  case isFalse => exact q.elim
  rename_i hl
  obtain ⟨hk, hl⟩ := hl
  obtain ⟨o, O, k1, ⟨nd, v0, k2, k3⟩, _, _⟩ := w.chg (gs_get e1 (fun z => nomatch z))
  subst k2
  obtain ⟨a, vs, g1, g2, g3, g4⟩ := k3.at hk e4 w.sub
  refine ⟨v0, .ref a, k1, g1, .inl ⟨rfl, _, SqL.of g2⟩, Γ, Hf, s, w.w0, e2, fun v O' H1 Hf1 x hO ok => ?_⟩
  obtain ⟨ndO', v', ev, r⟩ := owD_ok e3 ok
  cases ev
  obtain ⟨o, O1, m1, ⟨nd1, v1, m2, m3⟩, kn, m5⟩ := w.grow x (gs_get e1 (fun z => nomatch z)) (s' := .no)
  subst m2
  rw [k1] at m1; cases m1
  have g2' := x.1 _ _ g2
  have dj : ∀ c ∈ O1, c ∉ O' := fun c hc z => kn c hc (hO c z).1
  obtain ⟨O2, n1, n2, n3⟩ := OwnR.app (x.2.2.1) g2' m3 hk e4 (g1.mono x.1) r nd1 ndO' dj
  refine ⟨a, vs, v, rfl, rfl, g2', ?_, q σ _ Hf1 (m5 _ O2 _ (fun c hc => ?_) (fun c hc => ?_) (fun c hc => (n3 c).mpr (.inl hc)) ⟨n2, _, rfl, n1⟩)⟩
  · rw [g3, sizeLine_eq]; omega
  · rcases (n3 c).mp hc with z | z
    · exact .inl z
    · exact .inr (hO c z)
  · have : a ∈ O1 := by
      obtain ⟨b, us, f1, f2, f3, f4⟩ := m3.at hk e4 x.2.2.1
      have := V.ref.inj (SubAt.fun f1 (g1.mono x.1))
      rw [← this]; exact f4
    exact upd_ne fun z => hc (by subst z; exact (n3 c).mpr (.inl this))
/-- x = [], a list of owned lists to come -/
def sNewO (i : Nat) : En → Out := fun Γ => .nx (Γ.set i (.oll []))
theorem sv_newO {i : Nat} {x : Str} {pos' pos2 : Pos} (hN : X.N.Nodup) (hi : X.N[i]? = some x) (hx : Loc X.env.scope x) (hs : swapsWith (.List [] pos2) (some (.Name x pos')) pos.line X.env = pure false := by rfl) (hf : X.fn x = true ∨ X.env.scope.names.lookup x = some .local := by first | exact .inl rfl | exact .inr rfl | assumption) :
    SV X xq (.Assign [.Name x pos'] (.List [] pos2) pos) (sNewO i) := by
  refine ⟨PS.imp (ps_set hN hi hx (pe_lst pa_nil) hs hf) fun Dn σ H ⟨H0, Hf0, Γ, Hf, w, q⟩ => ⟨Nat.zero_le _, fun p hp => ?_⟩⟩
  exact q _ _ _ (w.setOwn (new_ext w.sub hp) (O := [p]) (fun b hb => by simp at hb; subst hb; exact ⟨hp, w.sub.free hp⟩) ⟨p, [], rfl, rfl, upd_same, .nil, by simp⟩)
end
/-! rewriting rules -/
section
variable (Γ : En)
@[simp] theorem sNewO_ap (i : Nat) : sNewO i Γ = .nx (Γ.set i (.oll [])) := rfl
@[simp] theorem owCons_ap (k : Nat) (f : En → Option Sl) (g : En → Option (List D)) : owCons k f g Γ = ((f Γ).bind (owD k)).bind fun d => (g Γ).map fun r => d :: r := rfl
@[simp] theorem owLst_ap (k : Nat) (g : En → Option (List D)) : owLst k g Γ = (g Γ).bind fun ds => if ds.length ≤ 1000 then some (.ow (k + 1) (.lst ds)) else none := rfl
@[simp] theorem owTup_ap (k : Nat) (g : En → Option (List D)) : owTup k g Γ = (g Γ).bind fun ds => if ds.length ≤ 1000 then some (.ow (k + 1) (.tup ds)) else none := rfl
@[simp] theorem owD_oll (rows : List (List D)) : owD 2 (.oll rows) = some (.lst (rows.map D.lst)) := rfl
@[simp] theorem owD_ol (rows : List D) : owD 1 (.ol rows) = some (.lst rows) := rfl
@[simp] theorem owD_ow (k : Nat) (d : D) : owD k (.ow k d) = some d := by simp [owD]
@[simp] theorem owD_int (k : Nat) (i : Int) : owD k (.sh (.int i)) = some (.int i) := rfl
@[simp] theorem owD_str (k : Nat) (i : Str) : owD k (.sh (.str i)) = some (.str i) := rfl
@[simp] theorem owD_non (k : Nat) : owD k (.sh .non) = some .non := rfl
def owAppO (i : Nat) (path : List Nat) (s : Sl) (o : Option Sl) (Γ : En) : Out := match s, o with
  | .ow k d, some s => (match owD (k - path.length - 1) s, subD d path with
    | some e, some (.lst ds) => if path.length < k ∧ ds.length < 1000000 then .nx (Γ.set i (.ow k (putD d path (.lst (ds ++ [e]))))) else .bad
    | _, _ => .bad)
  | _, _ => .bad
@[simp] theorem sOwApp_ap (i : Nat) (path : List Nat) (f : En → Option Sl) : sOwApp i path f Γ = owAppO i path (gs Γ i) (f Γ) Γ := by
  unfold sOwApp owAppO; rfl
@[simp] theorem frz1_ow (k : Nat) (d : D) : frz1 (.ow k d) = .sh d := rfl
@[simp] theorem frzR_ow (k : Nat) (d : D) : frzR (.ow k d) = .ok d := rfl
end
end DL

/-! DL12: the rest. -/
namespace DL
open PySem PySem.Spec PyProof.Rows L2
def oEv (f : En → Option D) : En → Option Sl := fun Γ => (f Γ).map Sl.sh
def oFv (f : En → Option (List D)) : En → Option Sl := fun Γ => (f Γ).map Sl.ol
/-- sorted(d), d an owned dict with int keys -/
def fSortedK (i : Nat) : En → Option (List D) := fun Γ => match gs Γ i with
  | .ok kvs => if kvs.length < 64 then some ((srt (kvs.map (·.1))).map D.int) else none
  | _ => none
/-- sorted(set(xs)), xs a list of ints -/
def ddp : List Int → List Int
  | [] => []
  | x :: r => x :: (ddp r).filter (· ≠ x)
def asTups : List D → Option (List (List Int))
  | [] => some []
  | .tup ds :: r => (asInts ds).bind fun ns => (asTups r).map (ns :: ·)
  | _ => none
def dSortedSet : D → Option (List D)
  | .lst xs => match asInts xs with
    | some ns => if ns.length < 64 then some ((srt (ddp ns)).map D.int) else none
    | none => none
  | _ => none
def fSortedSet (f : En → Option D) : En → Option (List D) := fun Γ => (f Γ).bind dSortedSet
/-- range(a, b, -1) -/
def rg3 : List D → Option (List D)
  | [.int a, .int b, .int c] => if c = -1 ∧ a - b ≤ 1000000 then some ((List.range (a - b).toNat).map fun (k : Nat) => D.int (a - k)) else none
  | _ => none
section
variable (Γ : En)
@[simp] theorem oEv_ap (f : En → Option D) : oEv f Γ = (f Γ).map Sl.sh := rfl
@[simp] theorem oFv_ap (f : En → Option (List D)) : oFv f Γ = (f Γ).map Sl.ol := rfl
@[simp] theorem fSortedSet_ap (f : En → Option D) : fSortedSet f Γ = (f Γ).bind dSortedSet := rfl
end
end DL

/-! DX: defs that raise; the catch. -/
namespace DL
open PySem PySem.Spec PyProof.Rows L2
/-- an own class over ValueError, as the top has made it -/
structure Ex1 (K : Fr) (mg : Str → Option Value) (x : Str) (C : Addr) : Prop where
  g : mg x = some (.ref C)
  k : PySem.W.keepIn K (.ref C) = true
  q : PySem.W.excIn K C [.type "ValueError", .type "Exception", .type "BaseException", .type "object"] "ValueError.__new__" = true
  b : PySem.W.subIn K (.ref C) (.type "BaseException") = some true
  t : PySem.W.typeIn K (.ref C) = some (.type "type")
section
variable {X : Cx} {xq : XQ} {st : Stmt} {e : Expr} {pos : Pos} {ca : Str → Addr}
theorem svs_bad {sts : List Stmt} : SVs X xq sts (fun _ => .bad) := ⟨⟨fun pins s σ H D I ⟨_, _, _, _, _, q⟩ => q.elim⟩⟩
theorem sv_raise {x m : Str} {j : Nat} {p p2 pos pos2 : Pos} {W : WX} (hc : X.calm = true) (tk : L2N.Takes X W) (hW : ∀ σ H, xq x σ H → W (.ref (ca x)) none σ H) (T : Ex1 X.K X.mg x (ca x)) (hg : Gl X x) (hdb : (x == ("__debug__" : Str)) = false := by decide) :
    SV X xq (.Raise (some (.Call (.Name x p) [.Constant (.str m) j p2] [] pos)) none pos2) (sExc x) :=
  ⟨PS.imp (L2N.ps_raise hc tk (L2N.pmk_own PySem.F.excBase_ValueError T.q T.g T.k (raises_own T.b T.t) hg hdb)) fun Dn σ H ⟨H0, Hf0, Γ, Hf, w, q⟩ => hW σ H (q Γ σ H Hf w)⟩
/-- a call of a def that may raise -/
theorem rv_call {k n : Nat} {f : Addr} {fd : FuncData} {ps : List Str} {g : List D → Res} {W : WX} {x : Str} {p : Pos} {es : List Expr} {fa : En → Option (List D)} (F : FnOk X.prog X.w X.K X.mg X.base (L2N.CX X.prog X.w) k f fd ps (spD X.K ca true n g)) (hr : Room k X.A) (hg : Gl X x) (hm : X.mg x = some (.ref f)) (hk : PySem.W.keepIn X.K (.ref f) = true) (hb : Binds X.K fd ps [])
    (tk : L2N.Takes X W) (hW : ∀ c σ H, xq c σ H → W (.ref (ca c)) none σ H)
    (ha : AV X (e :: es) fa) (hn : ∀ Γ ds, fa Γ = some ds → ds.length = n) (hdb : (x == ("__debug__" : Str)) = false := by decide) (he : starEach (e :: es) X.env = (false, eval e X.env) :: starEach es X.env := by rfl) (hpl : (backTo pos (starEach es X.env)).any (·.1) = false := by rfl) :
    RV X xq (.Call (.Name x p) (e :: es) [] pos) (rCall g fa) := by
  refine ⟨PE.imp (pe_callS (E := WE W) F hr hg hm hk hb (fun σ => L2N.passAt tk σ) ha.pa hdb he hpl) fun σ H Q ⟨Γ, Hf, r, w, e1, q⟩ => ?_⟩
  obtain ⟨ds, e2, e3⟩ := Option.map_eq_some_iff.mp e1
  refine ⟨Γ, Hf, ds, w, e2, fun vs H1 Hf1 x r1 => ⟨by rw [r1.length]; exact hn _ _ e2, Hf1, ds, x.2.2.1, r1, ?_⟩⟩
  rw [e3]
  cases r with
  | ok d => exact fun v H' Hf' y r => q v H' Hf' (x.trans y) r
  | exc c => exact ⟨rfl, fun H' Hf' y => hW c σ H' (q H' Hf' (x.trans y))⟩
  | bad => exact q
end
/-! the def -/
section
variable {P : Program} {w : World} {K : Fr} {mg : Str → Option Value} {base : Heap} {ca : Str → Addr}
abbrev xqE (ca : Str → Addr) (E : XK) : XQ := fun c _ H => E (.ref (ca c)) none H
abbrev wxE (E : XK) : WX := fun cls d _ H => E cls d H
theorem fn_okX {x qual : Str} {st : Stmt} {f : Addr} {fd : FuncData} {N ps : List Str} {k n : Nat} {body : En → Out} (F : Fun K x qual st f fd) (S : FnScope N ps (defScope st)) (hn : n = ps.length)
    (h : ∀ (cdv : Value) (A : Around) (outer : List Env) (s : Shared) (H : Hp) (E : XK), Room k (A.deeper (envOfC qual (defScope st) s.heap.objs.size f cdv)) → L2N.Takes (cxOf (L2N.CX P w) P w K mg base N qual (defScope st) f cdv A outer s H E) (wxE E) →
      SVs (cxOf (L2N.CX P w) P w K mg base N qual (defScope st) f cdv A outer s H E) (xqE ca E) (defBody st) body) : FnOk P w K mg base (L2N.CX P w) (k + 1) f fd ps (spD K ca true n (runD N.length body)) := by
  obtain ⟨oc, od, kV, doc, pm, an, cdv, ct, osl, rfl, lk, hcd⟩ := F.ex
  refine fn_of lk hcd S (fun vs H Q E h => by rw [h.1, hn]) fun A outer s H vs Q E hr hsp => ⟨_, (h cdv A outer s H E hr (L2N.takes_of rfl rfl rfl rfl)).ps, ?_⟩
  obtain ⟨_, Hf, ds, s1, r, q⟩ := hsp
  refine ⟨H, Hf, _, Hf, start_wf s1 r, ?_⟩
  unfold runD at q
  cases e : body (ds.map Sl.sh ++ List.replicate (N.length - ds.length) .no) with
  | ret d Γ' => rw [e] at q; exact fun v σ' H' Hf' w' r' => q v H' Hf' ⟨w'.same0, w'.sub0, w'.sub, w'.new⟩ r'
  | nx Γ' => rw [e] at q; exact fun σ' H' Hf' w' => q .non H' Hf' ⟨w'.same0, w'.sub0, w'.sub, w'.new⟩ rfl
  | rto t =>
    rw [e] at q
    intro v O Γ' σ' H' Hf' w' hO ok
    obtain ⟨Hx, x1, x2, x3, _, new⟩ := ok.frz (fun a ha => (hO a ha).2) w'.sub
    have nb : ∀ b, Hx b = none ∨ Hf b ≠ none ∨ H b = none ∨ ∃ xs, H b = some (.tup xs) := fun b => by
      rcases x3 b with z | z | z
      · exact .inl z
      · rcases w'.new b with u | u
        · exact absurd u z
        · exact .inr u
      · exact .inr (.inr (.inl (hO b z).1))
    simp only at q
    cases hz : frzR t with
    | ok d =>
      rw [hz] at q
      have ef := frzR_eq hz
      have : SlOk K Hx H' (frz1 t) (some v) [] := by
        by_cases ht : frz1 t = t
        · rw [ht]
          rw [ht] at ef
          subst ef
          obtain ⟨_, u, e1, e2⟩ := ok
          exact ⟨rfl, u, e1, e2.mono x1⟩
        · exact new ht
      rw [ef] at this
      obtain ⟨_, u, e1, e2⟩ := this
      cases e1
      exact q v H' Hx ⟨w'.same0, w'.sub0.trans x1, x2, nb⟩ e2
    | exc c => unfold frzR at hz; split at hz <;> cases hz
    | bad => rw [hz] at q; exact q.elim
  | exc c => rw [e] at q; exact fun Γ' σ' H' Hf' w' => q.2 H' Hf' ⟨w'.same0, w'.sub0, w'.sub, w'.new⟩
  | brk _ => rw [e] at q; exact q.elim
  | ct _ => rw [e] at q; exact q.elim
  | bad => rw [e] at q; exact q.elim
end
/-! the catch -/
theorem Wf.nil {K : Fr} {H0 Hf0 H Hf : Hp} {Γ : En} {σ : L2.St} (w : Wf K H0 Hf0 Γ σ H Hf) : Wf K H0 Hf0 [] [] H Hf :=
  ⟨w.sub, w.sub0, w.same0, w.new, rfl, fun _ => [], fun i s h => by simp at h, fun i j _ a ha => by simp at ha, fun i a ha => by simp at ha⟩
theorem Wf.setAt {K : Fr} {H0 Hf0 H Hf : Hp} {Γ : En} {σ : L2.St} {i : Nat} {a : Addr} (w : Wf K H0 Hf0 Γ σ H Hf) : Wf K H0 Hf0 (Γ.set i (.at a)) (σ.set i (some (.ref a))) H Hf := by
  have w1 := w.no i (some (.ref a))
  obtain ⟨ow, h1, h2, h3⟩ := w1.own
  refine ⟨w1.sub, w1.sub0, w1.same0, w1.new, by rw [List.length_set]; rw [← w1.len, List.length_set], fun j => if j = i then [] else ow j, fun j t ht => ?_, fun j k hjk b hb => ?_, fun j b hb => ?_⟩
  · by_cases hj : j = i
    · subst hj
      have hl : j < Γ.length := by simpa using (List.getElem?_eq_some_iff.mp ht).1
      rw [List.getElem?_set_self hl] at ht
      cases ht
      exact ⟨some (.ref a), List.getElem?_set_self (by rw [← w.len]; exact hl), by simp only [if_pos]; exact ⟨rfl, rfl⟩⟩
    · obtain ⟨o, e1, e2⟩ := h1 j t (by rw [List.getElem?_set_ne (Ne.symm hj)] at ht ⊢; exact ht)
      exact ⟨o, e1, by simp only [if_neg hj]; exact e2⟩
  · by_cases hj : j = i
    · simp [hj] at hb
    · by_cases hk : k = i
      · simp [hk]
      · simp only [if_neg hj] at hb
        simp only [if_neg hk]
        exact h2 j k hjk b hb
  · by_cases hj : j = i
    · simp [hj] at hb
    · simp only [if_neg hj] at hb
      exact h3 j b hb
def sTry (i n : Nat) (g : En → Option Res) (u : Str → Option D) : En → Out := fun Γ => match g Γ with
  | some (.ok _) => .nx Γ
  | some (.exc c) => (match u c with
    | some d => if i < n ∧ Γ.length = n then .ret d [] else .bad
    | none => .bad)
  | _ => .bad
/-- what a suite promises: at the exception of the class c in slot i it hands back d -/
def SuOk (X : Cx) (ca : Str → Addr) (i n : Nat) (c : Str) (d : D) (sts : List Stmt) : Prop := ∀ (a : Addr) (oe : Obj) (pn : List (Addr × Obj)), L2N.Zn (.ref (ca c)) none oe → (∃ vs, oe.data = .fields vs) →
  ∃ s, SVs (X.suite a ((a, oe) :: pn)) xq0 sts s ∧ ∀ Γ : En, Γ.length = n → Γ[i]? = some (.at a) → ∃ Γ', s Γ = .ret d Γ'
section
variable {X : Cx} {xq : XQ} {ca : Str → Addr} {e : Expr} {x n : Str} {CB : Addr} {i m : Nat} {suite : List Stmt} {b₀ : Stmt} {np pos pos' pos2 : Pos}
theorem sv_try {g : En → Option Res} {u : Str → Option D} (hs : X.stack = X.env :: X.outer) (hf : X.env.frame = some X.env.locals) (hN : X.N.Nodup) (hi : X.N[i]? = some n) (hln : X.env.kindOf n = some .local) (hc : Names X x (.ref CB))
    (hb : ∀ (W : WX) (pn : List (Addr × Obj)) (xe : Value → Shared → Prop), L2N.Takes (X.tr pn xe) W → RV (X.tr pn xe) (fun c σ H => W (.ref (ca c)) none σ H) e g)
    (hm : ∀ c d, u c = some d → PySem.W.exmOne X.K (.ref (ca c)) (.ref CB) = some true) (hsu : ∀ c d, u c = some d → SuOk X ca i m c d (b₀ :: suite))
    (hsw : ∀ pn xe, swapsWith e none pos2.line (X.tr pn xe).env = pure false := by intro _ _; rfl) :
    SV X xq (.Try [.Expr e pos2] [.ExceptHandler (some (.Name x np)) (some n) (b₀ :: suite) pos'] [] [] pos) (sTry i m g u) := by
  refine ⟨PS.imp (L2N.ps_try_as (X := X) (tb := fun W => tDrop (tR X.K (fun c σ H => W (.ref (ca c)) none σ H) g)) (ts := fun a cls d D σ H => ∃ c dd, cls = .ref (ca c) ∧ d = none ∧ u c = some dd ∧ ∃ H0 Hf0 Γ Hf, Wf X.K H0 Hf0 Γ σ H Hf ∧ (Γ.length = m ∧ Γ[i]? = some (.at a)) ∧ ∀ v σ' H' Hf' Γ', Wf X.K H0 Hf0 Γ' σ' H' Hf' → Rp X.K Hf' dd v → D.rt v H') (Wout := fun _ _ _ _ => False) hs hf hN hi hln hc (fun _ _ x => by
      obtain ⟨_, _, _, _, _, _, _, _, _, _, _, _, _, _, _, _, z⟩ := x
      exact z.elim)
    (fun W pn xe tk _ => pss_one (ps_expr (hb W pn xe tk).pe (hsw pn xe)))
    (fun a oe cls d pn hz hd => ⟨fun pins s σ H D I ⟨c, dd, e1, e2, e3, H0, Hf0, Γ, Hf, w, hg, q⟩ => by
      subst e1 e2
      obtain ⟨t, ht, hr⟩ := hsu c dd e3 a oe pn hz hd
      obtain ⟨Γ', er⟩ := hr Γ hg.1 hg.2
      exact ht.ps.run pins s σ H D I ⟨H0, Hf0, Γ, Hf, w, by rw [er]; exact fun v σ' H' Hf' w' r => q v σ' H' Hf' Γ' w' r⟩⟩)) fun Dn σ H ⟨H0, Hf0, Γ, Hf, w, q⟩ => ?_⟩
  unfold sTry at q
  cases e1 : g Γ with
  | none => rw [e1] at q; exact q.elim
  | some r =>
    rw [e1] at q
    refine tR_st w e1 (fun d h v H' Hf' w' _ => ?_) (fun c h H' Hf' w' => ?_) (fun h => ?_)
    · subst h; exact q σ H' Hf' w'
    · subst h
      dsimp only at q
      cases e2 : u c with
      | none => rw [e2] at q; exact q.elim
      | some d =>
        rw [e2] at q
        dsimp only at q
        split at q
        case isFalse => exact q.elim
        rename_i hil
        refine ⟨true, hm c d e2, fun _ a na => ⟨c, d, rfl, rfl, e2, H0, Hf0, _, Hf', w'.setAt (i := i) (a := a), ?_, fun v σ' H2 Hf2 Γ' w2 r => q v [] H2 Hf2 w2.nil r⟩, fun z => nomatch z⟩
        exact ⟨by rw [List.length_set]; exact hil.2, List.getElem?_set_self (by omega)⟩
    · subst h; exact q
end
/-! isinstance of the exception that is held -/
section
variable {X : Cx} {ca : Str → Addr}
theorem call_isP {a C : Addr} {oe : Obj} (E : ExcC X.K C) (hz : Zc (.ref C) none oe) (hf : ∃ vs, oe.data = .fields vs) (hp : (a, oe) ∈ X.pn) : CallR X (.builtin "isinstance") (rIsE X.K C a) := by
  rintro pins s σ H xs us Q I r ⟨c, cv, b, rfl, hcv, e, q⟩
  rcases r with _ | ⟨rx, _ | ⟨rt, _ | _⟩⟩
  cases rx
  rw [hcv _ rt]
  have hget := (I.pin (a, oe) (List.mem_append_left _ hp)).1
  obtain ⟨vs, hv⟩ := hf
  have J : PySem.W.InstAt s.heap a oe C none := ⟨hget, hz.1, by unfold PySem.W.notCls; rw [hv], by rw [hz.2]; trivial⟩
  refine PySem.W.kia_one (PySem.W.handS_kitx_exc E.hg E.hk E.hs E.hd E.ha E.hn E.ht E.hm) I.kIn J e (by simp) fun tk => ?_
  exact ⟨.bl b, H, I.kept (t' := tk) fun _ _ z => z, rfl, q⟩
def eIsE (i : Nat) (a : Addr) (b : Bool) : En → Option D := fun Γ => match gs Γ i with
  | .at a' => if a' = a then some (.bl b) else none
  | _ => none
theorem ev_isE {o : Expr} {i : Nat} {pos p p2 : Pos} {T : Str} {c : V} {cv : Value} {b : Bool} {a C : Addr} {oe : Obj} (E : ExcC X.K C) (hz : Zc (.ref C) none oe) (hf : ∃ vs, oe.data = .fields vs) (hp : (a, oe) ∈ X.pn)
    (hg : Gl X "isinstance") (hm : X.mg "isinstance" = none) (he : PE X o (tVar i)) (h2 : PE X (.Name T p2) (tC c)) (hc : ∀ u, RelV c u → u = cv) (hk : PySem.W.kitOne X.K (.ref C) cv = some b)
    (hv : bootBuiltins ("isinstance" : Str) = some (.builtin "isinstance") := by decide +kernel)
    (hs : starEach [o, .Name T p2] X.env = (false, eval o X.env) :: starEach [.Name T p2] X.env := by rfl) (hs2 : starEach [.Name T p2] X.env = (false, eval (.Name T p2) X.env) :: starEach [] X.env := by rfl)
    (hpl : (backTo pos (starEach [.Name T p2] X.env)).any (·.1) = false := by rfl) : EV X (.Call (.Name "isinstance" p) [o, .Name T p2] [] pos) (eIsE i a b) := by
  refine ev_of (pe_callB (call_isP E hz hf hp) hg hm hv (pa_cons he (pa_cons h2 pa_nil hs2) hs) (by decide) (by decide) hs hpl) fun σ H Q ⟨Γ, Hf, d, w, e1, q⟩ => ?_
  unfold eIsE at e1
  split at e1
  · rename_i a' e2
    split at e1
    · cases e1
      rename_i ea
      subst ea
      obtain ⟨ow, h1, _, _⟩ := w.own
      obtain ⟨o', e3, e4⟩ := h1 i _ (gs_get e2 (fun z => nomatch z))
      rw [e4.2] at e3
      exact ⟨.ref a', e3, c, cv, b, rfl, hc, hk, q _ H Hf (Ext.refl w.sub) rfl⟩
    · cases e1
  · cases e1
end
/-! a def that is called within the suite, of the exception itself -/
/-- what such a def promises, the exception that is held standing at the pin p -/
structure FnP (P : Program) (w : World) (K : Fr) (mg : Str → Option Value) (base : Heap) (p : Addr × Obj) (k : Nat) (f : Addr) (fd : FuncData) (x : Str) (d : D) : Prop where
  run : ∀ (A : Around) (outer : List Env) (s : Shared) (H : Hp) (args : Args) (u : Value) (Q : VK) (E : XK), L2H.RoomH k A → L2H.Hot1 A p → L2H.PinOk outer H s p → Env0 P w K mg base A outer s H → BindsTo s fd args [(x, u)] → RelV (.ref p.1) u →
    (∀ v H' Hf', Ext H H00 H' Hf' → Rp K Hf' d v → Q v H') → codeAny (model P w) A (.call (.ref f) args) (CR CX0 outer P w H s Q E) s
section
variable {P : Program} {w : World} {K : Fr} {mg : Str → Option Value} {base : Heap}
theorem fn_okP {x qual x0 : Str} {st : Stmt} {f : Addr} {fd : FuncData} {N : List Str} {k : Nat} {body : En → Out} {d : D} {p : Addr × Obj} (F : Fun K x qual st f fd) (S : FnScope N [x0] (defScope st))
    (h : ∀ (cdv : Value) (A : Around) (outer : List Env) (s : Shared) (H : Hp) (E : XK), L2H.RoomH k (A.deeper (envOfC qual (defScope st) s.heap.objs.size f cdv)) → SVs (L2H.cxH CX0 P w K mg base N qual (defScope st) f cdv A outer s H E p) xq0 (defBody st) body)
    (hr : ∃ Γ', body (.at p.1 :: List.replicate (N.length - 1) .no) = .ret d Γ') : FnP P w K mg base p (k + 1) f fd x0 d := by
  obtain ⟨oc, od, kV, doc, pm, an, cdv, ct, osl, rfl, lk, hcd⟩ := F.ex
  constructor
  intro A outer s H args u Q E hrm hot hpin e0 hb ru hQ
  have KX : K.In s.heap := e0.mod.kin.keeps (fun b o e => (e0.bs b o e).1)
  have lim : s.heap.NoLimit := e0.mod.nolimit.keeps (fun b o e => (e0.bs b o e).1)
  have hz : ([x0] : List Str).zip [u] = [(x0, u)] := rfl
  have hkd : ∀ y ∈ ([x0] : List Str).zip [u], (defScope st).names.lookup y.1 = some .local ∨ ((defScope st).names.lookup y.1 = some .cell ∧ ((cellsFrom (s.heap.objs.size + 1) (defScope st).names []).lookup y.1).isSome = true) := by
    rintro ⟨n, v⟩ hy
    rcases S.par n (List.of_mem_zip hy).1 with q | q
    · exact Or.inl q
    · exact Or.inr ⟨q, PySem.W.cellsFrom_some _ _ _ (Or.inl q)⟩
  have hb' : BindsTo s (PySem.W.fnOf x qual (defArgs st) (defBody st) (defScope st) .none kV doc pm an cdv ct) args (([x0] : List Str).zip [u]) := hb
  refine codeAny_call_function (hrm.depth) (KX _ _ lk) rfl S.co S.gen rfl (PySem.W.codeRec_of KX hcd) (hb' _ _ _ _ ?_)
  refine wpAny_newFunctionEnv_cells S.kind hkd ?_
  rintro env rfl s1 xc
  refine ⟨lim.keeps xc.toInCall.keep, codeAny_func ?_⟩
  have I := L2H.inv_startH (CX := CX0) (E := E) (vs := [V.ref p.1]) (us := [u]) S hpin e0 rfl (.cons ru .nil) xc
  have hN : 0 < N.length := by
    have := congrArg List.length S.pre
    simp at this; omega
  have w0 : Wf K H H00 (.at p.1 :: List.replicate (N.length - 1) .no) (L2.start N [V.ref p.1]) H H00 := by
    have w1 := (start_wf (N := N) (ds := [D.non]) (vs := [V.non]) (Hf := H00) (H := H) (K := K) same_none (.cons rfl .nil)).setAt (i := 0) (a := p.1)
    exact w1
  obtain ⟨Γ', hbody⟩ := hr
  refine wpAny_mono ((h cdv A outer s H E (hrm.deeper _)).ps.run [] s1 (L2.start N [V.ref p.1]) H { nx := fun _ H' => Q .non H', rt := Q } I ⟨H, H00, _, H00, w0, ?_⟩) (fun fl s' hs => ?_) fun e s' hs => hs
  · rw [hbody]
    exact fun v σ' H' Hf' w' r => hQ v H' Hf' ⟨w'.same0, w'.sub0, w'.sub, w'.new⟩ r
  · rcases fl with _ | _ | _ | u'
    · obtain ⟨σ', H', J, q⟩ := hs
      exact ⟨V.non, H', J.os, J.bare, J.base, J.hok, rfl, q⟩
    · exact hs.elim fun _ z => z.elim fun _ z => z.2.elim
    · exact hs.elim fun _ z => z.elim fun _ z => z.2.elim
    · obtain ⟨v, σ', H', J, rv, q⟩ := hs
      exact ⟨v, H', J.os, J.bare, J.base, J.hok, rv, q⟩
end
section
variable {X : Cx}
def eAtC (i : Nat) (a : Addr) (d : D) : En → Option D := fun Γ => match gs Γ i with
  | .at a' => if a' = a then some d else none
  | _ => none
theorem ev_callP {o : Expr} {i k : Nat} {pos p : Pos} {x x0 : Str} {f a : Addr} {oe : Obj} {fd : FuncData} {d : D} (F : FnP X.prog X.w X.K X.mg X.base (a, oe) k f fd x0 d) (hr : L2H.RoomH k X.A) (hot : L2H.Hot1 X.A (a, oe)) (hp : (a, oe) ∈ X.pn) (hd : flatD d = true)
    (hg : Gl X x) (hm : X.mg x = some (.ref f)) (hk : PySem.W.keepIn X.K (.ref f) = true) (hb : Binds X.K fd [x0] []) (he : PE X o (tVar i)) (hdb : (x == ("__debug__" : Str)) = false := by decide)
    (hs : starEach [o] X.env = (false, eval o X.env) :: starEach [] X.env := by rfl) (hpl : (backTo pos (starEach [] X.env)).any (·.1) = false := by rfl) : EV X (.Call (.Name x p) [o] [] pos) (eAtC i a d) := by
  constructor
  constructor
  intro pins s σ H Q I ⟨Γ, Hf, z, w, e1, q⟩
  unfold eAtC at e1
  split at e1
  case h_2 => cases e1
  rename_i a' e2
  split at e1
  case isFalse => cases e1
  cases e1
  rename_i ea
  subst ea
  obtain ⟨ow, h1, _, _⟩ := w.own
  obtain ⟨o', e3, e4⟩ := h1 i _ (gs_get e2 (fun z => nomatch z))
  rw [e4.2] at e3
  have ha : PA X [o] (tCons (tVar i) tNil) := pa_cons he pa_nil hs
  refine wpAny_Call_Name_kw (ld_glob I hg hm ?_ hdb)
  refine PySem.W.callWith_K (h₀ := X.base) I.ok.mod.kin hk (thn (ha.run pos pins s σ H (fun vs H1 => vs = [V.ref a'] ∧ H1 = H) I ⟨_, e3, rfl, rfl⟩) fun us s1 ⟨vs, H1, I1, r, ev, eH⟩ => ⟨I1.kIn, ?_⟩) hs hpl
  subst ev eH
  obtain ⟨u, rfl, ru⟩ := vals1 r
  have b := hb s1 [u] I1.kIn rfl
  rw [List.append_nil] at b
  have P1 := I1.pin (a', oe) (List.mem_append_left _ hp)
  have hpin : L2H.PinOk X.stack H1 s1 (a', oe) := ⟨P1.1, P1.2.1, fun hm => (List.mem_cons.mp (I1.stkSub a' hm)).elim P1.2.2.1 P1.2.2.2.1, P1.2.2.2.2⟩
  refine wpAny_call (codeAny_mono (F.run X.A X.stack s1 H1 ⟨[u], []⟩ u Q (fun _ _ _ => False) hr hot hpin I1.env0 b ru fun v H' Hf' x r => ?_) fun r s' hq => ?_)
  · exact q v H' Hf ⟨x.1, Same.refl _, w.sub.trans x.1, fun b => by
      cases z : Hf b with
      | none => exact .inl rfl
      | some _ => exact .inr (.inl (fun q => nomatch q))⟩ (r.flat hd)
  · cases r with
    | error e => exact hq.elim
    | ok fl =>
      cases fl with
      | ret v => exact I1.after hq
      | next => exact hq.elim
      | brk => exact hq.elim
      | cont => exact hq.elim
end
end DL
namespace DL
open PySem PySem.Spec PyProof.Rows L2
def sBad : En → Out := fun _ => .bad
theorem sv_bad {X : Cx} {xq : XQ} {st : Stmt} : SV X xq st sBad := ⟨⟨fun pins s σ H D I ⟨_, _, _, _, _, q⟩ => q.elim⟩⟩
section
variable (Γ : En)
@[simp] theorem sBad_ap : sBad Γ = .bad := rfl
def rexO (r : Option Res) (Γ : En) : Out := match r with
  | some (.ok _) => .nx Γ
  | some (.exc c) => .exc c
  | _ => .bad
@[simp] theorem sRExpr_ap (g : En → Option Res) : sRExpr g Γ = rexO (g Γ) Γ := rfl
@[simp] theorem rexO_ok (d : D) : rexO (some (.ok d)) Γ = .nx Γ := rfl
@[simp] theorem rexO_exc (c : Str) : rexO (some (.exc c)) Γ = .exc c := rfl
def rretO (r : Option Res) (Γ : En) : Out := match r with
  | some (.ok d) => .ret d Γ
  | some (.exc c) => .exc c
  | _ => .bad
@[simp] theorem sRRet_ap (g : En → Option Res) : sRRet g Γ = rretO (g Γ) Γ := rfl
@[simp] theorem rretO_ok (d : D) : rretO (some (.ok d)) Γ = .ret d Γ := rfl
@[simp] theorem rretO_exc (c : Str) : rretO (some (.exc c)) Γ = .exc c := rfl
def rasgO (i : Nat) (r : Option Res) (Γ : En) : Out := match r with
  | some (.ok d) => .nx (Γ.set i (.sh d))
  | some (.exc c) => .exc c
  | _ => .bad
@[simp] theorem sRAsg_ap (g : En → Option Res) (i : Nat) : sRAsg g i Γ = rasgO i (g Γ) Γ := rfl
@[simp] theorem rasgO_ok (i : Nat) (d : D) : rasgO i (some (.ok d)) Γ = .nx (Γ.set i (.sh d)) := rfl
@[simp] theorem rasgO_exc (i : Nat) (c : Str) : rasgO i (some (.exc c)) Γ = .exc c := rfl
def rifO (r : Option Res) (s t : En → Out) (Γ : En) : Out := match r with
  | some (.ok (.bl true)) => t Γ
  | some (.ok (.bl false)) => s Γ
  | some (.exc c) => .exc c
  | _ => .bad
@[simp] theorem sRIfN_ap (g : En → Option Res) (s t : En → Out) : sRIfN g s t Γ = rifO (g Γ) s t Γ := by
  unfold sRIfN rifO
  rfl
@[simp] theorem rifO_t (s t : En → Out) : rifO (some (.ok (.bl true))) s t Γ = t Γ := rfl
@[simp] theorem rifO_f (s t : En → Out) : rifO (some (.ok (.bl false))) s t Γ = s Γ := rfl
@[simp] theorem rifO_exc (s t : En → Out) (c : Str) : rifO (some (.exc c)) s t Γ = .exc c := rfl
@[simp] theorem rCall_ap (g : List D → Res) (a : En → Option (List D)) : rCall g a Γ = (a Γ).map g := rfl
def tryO (i n : Nat) (r : Option Res) (u : Str → Option D) (Γ : En) : Out := match r with
  | some (.ok _) => .nx Γ
  | some (.exc c) => (match u c with
    | some d => if i < n ∧ Γ.length = n then .ret d [] else .bad
    | none => .bad)
  | _ => .bad
@[simp] theorem sTry_ap (i n : Nat) (g : En → Option Res) (u : Str → Option D) : sTry i n g u Γ = tryO i n (g Γ) u Γ := rfl
@[simp] theorem tryO_ok (i n : Nat) (d : D) (u : Str → Option D) : tryO i n (some (.ok d)) u Γ = .nx Γ := rfl
theorem tryO_exc {i n : Nat} {c : Str} {d : D} {u : Str → Option D} (h : u c = some d) (hl : i < n ∧ Γ.length = n) : tryO i n (some (.exc c)) u Γ = .ret d [] := by simp [tryO, h, hl]
end
end DL
namespace DL
open PySem PySem.Spec PyProof.Rows L2
def uWeb : Str → Option D := fun c => if c = "BadWeb" then some (.str "web value") else none
theorem uWeb_inv {c : Str} {d : D} (h : uWeb c = some d) : c = "BadWeb" ∧ d = .str "web value" := by
  unfold uWeb at h
  split at h
  · rename_i e; cases h; exact ⟨e, rfl⟩
  · cases h
theorem gs_of : ∀ {Γ : En} {i : Nat} {s : Sl}, Γ[i]? = some s → gs Γ i = s
  | s :: r, 0, _, h => by simpa using h
  | _ :: r, n + 1, _, h => gs_of (Γ := r) (i := n) (by simpa using h)
  | [], _, _, h => by simp at h
theorem dMulS1 (z : Str) : dMul (.str z) (.int 1) = some (.str z) := by simp [dMul]
theorem dMulS0 (z : Str) : dMul (.str z) (.int 0) = some (.str Str.empty) := by simp [dMul]
theorem dAddS (x y : Str) : dAdd (.str x) (.str y) = if x.length + y.length ≤ 1000000 then some (.str (x ++ y)) else none := rfl
end DL
namespace DL
open PySem PySem.Spec PyProof.Rows L2
section
variable {K : Fr} {C1 C2 : Addr}
theorem kit_self : PySem.W.kitOne K (.ref C1) (.ref C1) = some true := by
  unfold PySem.W.kitOne; rw [if_pos (by simp)]
theorem kit_other (h1 : PySem.W.subIn K (.ref C1) (.ref C1) = some true) (h2 : PySem.W.subIn K (.ref C1) (.ref C2) = some false) (hc : PySem.W.isClsIn K C2 = true) (ht : PySem.W.typeIn K (.ref C2) = some (.type "type")) : PySem.W.kitOne K (.ref C1) (.ref C2) = some false := by
  have hne : ¬ C1 = C2 := fun e => by subst e; rw [h1] at h2; cases h2
  have e1 : (Value.ref C1 == Value.ref C2) = false := by simp [hne]
  have hc' : (PySem.W.clsIn K C2).isSome = true := hc
  unfold PySem.W.kitOne PySem.W.kitCls
  rw [e1, if_neg (by decide)]
  show (if ((PySem.W.clsIn K C2).isSome && PySem.W.typeIn K (.ref C2) == some (.type "type")) = true then PySem.W.subIn K (.ref C1) (.ref C2) else none) = some false
  rw [hc', ht, if_pos (by rfl), h2]
theorem kit_value (h : PySem.W.subIn K (.ref C1) (.type "ValueError") = some true) : PySem.W.kitOne K (.ref C1) (.type "ValueError") = some true := by
  have e1 : (Value.ref C1 == Value.type "ValueError") = false := rfl
  have e2 : PySem.W.kitMeta "ValueError" = true := by decide +kernel
  unfold PySem.W.kitOne PySem.W.kitCls
  rw [e1, if_neg (by decide)]
  simp only [e2, if_pos, h]
end
end DL
namespace DL
open PySem PySem.Spec PyProof.Rows L2
section
variable {X : Cx}
theorem vals_refs : ∀ {cs : List Addr} {us : List Value}, Vals (cs.map V.ref) us → us = cs.map Value.ref
  | [], _, r => by cases r; rfl
  | c :: cs, _, r => by
    cases r with
    | cons h t =>
      cases h
      rw [vals_refs t]; rfl
def rIsET (K : Fr) (C a : Addr) : List V → Hp → VK → Prop := fun xs H Q => ∃ (tp : Addr) (cs : List Addr) (b : Bool), xs = [.ref a, .ref tp] ∧ SqT K H tp (cs.map V.ref) ∧ PySem.W.kitAny K (.ref C) (cs.map Value.ref) = some b ∧ Q (.bl b) H
theorem call_isPT {a C : Addr} {oe : Obj} (E : ExcC X.K C) (hz : Zc (.ref C) none oe) (hf : ∃ vs, oe.data = .fields vs) (hp : (a, oe) ∈ X.pn) : CallR X (.builtin "isinstance") (rIsET X.K C a) := by
  rintro pins s σ H xs us Q I r ⟨tp, cs, b, rfl, hs, e, q⟩
  rcases r with _ | ⟨rx, _ | ⟨rt, _ | _⟩⟩
  cases rx
  cases rt
  obtain ⟨its, rv, ⟨⟨cls, dd, data, sl⟩, ho, hc, n, hd⟩, _⟩ := I.tuple hs
  have ei := vals_refs rv
  subst ei
  simp only at hc hd
  subst hc hd
  have hget := (I.pin (a, oe) (List.mem_append_left _ hp)).1
  obtain ⟨vs, hv⟩ := hf
  have J : PySem.W.InstAt s.heap a oe C none := ⟨hget, hz.1, by unfold PySem.W.notCls; rw [hv], by rw [hz.2]; trivial⟩
  refine PySem.W.kia_tup (PySem.W.handS_kitx_exc E.hg E.hk E.hs E.hd E.ha E.hn E.ht E.hm) I.kIn J ho e (by simp) fun tk => ?_
  exact ⟨.bl b, H, I.kept (t' := tk) fun _ _ z => z, rfl, q⟩
theorem ev_isET {o T : Expr} {i : Nat} {pos p : Pos} {cs : List Addr} {b : Bool} {a C : Addr} {oe : Obj} {ts : TA} (E : ExcC X.K C) (hz : Zc (.ref C) none oe) (hf : ∃ vs, oe.data = .fields vs) (hp : (a, oe) ∈ X.pn)
    (hg : Gl X "isinstance") (hm : X.mg "isinstance" = none) (he : PE X o (tVar i)) (h2 : PE X T (tTup ts)) (hts : ∀ (σ : L2.St) (H : Hp) (Q : List V → Hp → Prop), Q (cs.map V.ref) H → ts σ H Q) (hl : cs.length ≤ 1000) (hk : PySem.W.kitAny X.K (.ref C) (cs.map Value.ref) = some b)
    (hv : bootBuiltins ("isinstance" : Str) = some (.builtin "isinstance") := by decide +kernel)
    (hs : starEach [o, T] X.env = (false, eval o X.env) :: starEach [T] X.env := by rfl) (hs2 : starEach [T] X.env = (false, eval T X.env) :: starEach [] X.env := by rfl)
    (hpl : (backTo pos (starEach [T] X.env)).any (·.1) = false := by rfl) : EV X (.Call (.Name "isinstance" p) [o, T] [] pos) (eIsE i a b) := by
  refine ev_of (pe_callB (call_isPT E hz hf hp) hg hm hv (pa_cons he (pa_cons h2 pa_nil hs2) hs) (by decide) (by decide) hs hpl) fun σ H Q ⟨Γ, Hf, d, w, e1, q⟩ => ?_
  unfold eIsE at e1
  split at e1
  · rename_i a' e2
    split at e1
    · cases e1
      rename_i ea
      subst ea
      obtain ⟨ow, h1, _, _⟩ := w.own
      obtain ⟨o', e3, e4⟩ := h1 i _ (gs_get e2 (fun z => nomatch z))
      rw [e4.2] at e3
      refine ⟨.ref a', e3, hts _ _ _ ⟨by rw [List.length_map]; exact Nat.le_of_lt (small1000 hl), fun tp htp => ?_⟩⟩
      exact ⟨tp, cs, b, rfl, SqT.of upd_same, hk, q _ _ Hf (new_ext w.sub htp) rfl⟩
    · cases e1
  · cases e1
end
end DL
namespace DL
open PySem
def uThk : Str → Option D := fun c => if c = "BadThicket" then some (.bl true) else none
theorem uThk_inv {c : Str} {d : D} (h : uThk c = some d) : c = "BadThicket" ∧ d = .bl true := by
  unfold uThk at h
  split at h
  · rename_i e; cases h; exact ⟨e, rfl⟩
  · cases h
def uLay : Str → Option D := fun c => if c = "BadLayout" then some (.bl true) else none
theorem uLay_inv {c : Str} {d : D} (h : uLay c = some d) : c = "BadLayout" ∧ d = .bl true := by
  unfold uLay at h
  split at h
  · rename_i e; cases h; exact ⟨e, rfl⟩
  · cases h
end DL

/-! DG: the law's own def where no text of an object is being told (str of a list is asked). -/
namespace DL
open PySem PySem.Spec PyProof.Rows L2
structure FnG (P : Program) (w : World) (K : Fr) (mg : Str → Option Value) (base : Heap) (k : Nat) (f : Addr) (x : Str) (sp : Sp) : Prop where
  run : ∀ (A : Around) (s : Shared) (H : Hp) (v : V) (u : Value) (Q : VK), A.guards = some [] → Room k A → Env0 P w K mg base A [] s H → RelV v u → sp [v] H Q (fun _ _ _ => False) → codeAny (model P w) A (.call (.ref f) ⟨[u], []⟩) (CR CX0 [] P w H s Q fun _ _ _ => False) s
section
variable {P : Program} {w : World} {K : Fr} {mg : Str → Option Value} {base : Heap} {ca : Str → Addr}
theorem fn_okG {x qual x0 : Str} {st : Stmt} {f : Addr} {fd : FuncData} {N : List Str} {k : Nat} {body : En → Out} {g : List D → Res} (F : Fun K x qual st f fd) (S : FnScope N [x0] (defScope st)) (hbind : ∀ (s : Shared) (u : Value), BindsTo s fd ⟨[u], []⟩ [(x0, u)])
    (h : ∀ (cdv : Value) (A : Around) (outer : List Env) (s : Shared) (H : Hp) (E : XK), Room k (A.deeper (envOfC qual (defScope st) s.heap.objs.size f cdv)) → A.guards = some [] →
      SVs (cxOf CX0 P w K mg base N qual (defScope st) f cdv A outer s H E).nox xq0 (defBody st) body) (hg : g = runD N.length body) : FnG P w K mg base (k + 1) f x0 (spD K ca false 1 g) := by
  obtain ⟨oc, od, kV, doc, pm, an, cdv, ct, osl, rfl, lk, hcd⟩ := F.ex
  constructor
  intro A s H v u Q hgd hrm e0 rv hsp
  have KX : K.In s.heap := e0.mod.kin.keeps (fun b o e => (e0.bs b o e).1)
  have lim : s.heap.NoLimit := e0.mod.nolimit.keeps (fun b o e => (e0.bs b o e).1)
  have hkd : ∀ y ∈ ([x0] : List Str).zip [u], (defScope st).names.lookup y.1 = some .local ∨ ((defScope st).names.lookup y.1 = some .cell ∧ ((cellsFrom (s.heap.objs.size + 1) (defScope st).names []).lookup y.1).isSome = true) := by
    rintro ⟨n, z⟩ hy
    rcases S.par n (List.of_mem_zip hy).1 with q | q
    · exact Or.inl q
    · exact Or.inr ⟨q, PySem.W.cellsFrom_some _ _ _ (Or.inl q)⟩
  have hb' : BindsTo s (PySem.W.fnOf x qual (defArgs st) (defBody st) (defScope st) .none kV doc pm an cdv ct) ⟨[u], []⟩ (([x0] : List Str).zip [u]) := hbind s u
  refine codeAny_call_function (hrm.depth) (KX _ _ lk) rfl S.co S.gen rfl (PySem.W.codeRec_of KX hcd) (hb' _ _ _ _ ?_)
  refine wpAny_newFunctionEnv_cells S.kind hkd ?_
  rintro env rfl s1 xc
  refine ⟨lim.keeps xc.toInCall.keep, codeAny_func ?_⟩
  have I := inv_start (CX := CX0) (E := fun _ _ _ => False) (vs := [v]) (us := [u]) S hrm.hd e0 rfl (.cons rv .nil) xc
  have body_ok := (h cdv A [] s H (fun _ _ _ => False) (hrm.deeper _) hgd).ps.nox
  obtain ⟨_, Hf, ds, sb, r, q⟩ := hsp
  have pre : tS K xq0 body { nx := fun _ H' => Q .non H', rt := Q } (L2.start N [v]) H := by
    refine ⟨H, Hf, _, Hf, start_wf sb r, ?_⟩
    rw [hg] at q
    unfold runD at q
    cases e : body (ds.map Sl.sh ++ List.replicate (N.length - ds.length) .no) with
    | ret d Γ' => rw [e] at q; exact fun v σ' H' Hf' w' r' => q v H' Hf' ⟨w'.same0, w'.sub0, w'.sub, w'.new⟩ r'
    | nx Γ' => rw [e] at q; exact fun σ' H' Hf' w' => q .non H' Hf' ⟨w'.same0, w'.sub0, w'.sub, w'.new⟩ rfl
    | rto t =>
      rw [e] at q
      intro v O Γ' σ' H' Hf' w' hO ok
      obtain ⟨Hx, x1, x2, x3, _, new⟩ := ok.frz (fun a ha => (hO a ha).2) w'.sub
      have nb : ∀ b, Hx b = none ∨ Hf b ≠ none ∨ H b = none ∨ ∃ xs, H b = some (.tup xs) := fun b => by
        rcases x3 b with z | z | z
        · exact .inl z
        · rcases w'.new b with u | u
          · exact absurd u z
          · exact .inr u
        · exact .inr (.inr (.inl (hO b z).1))
      simp only at q
      cases hz : frzR t with
      | ok d =>
        rw [hz] at q
        have ef := frzR_eq hz
        have : SlOk K Hx H' (frz1 t) (some v) [] := by
          by_cases ht : frz1 t = t
          · rw [ht]
            rw [ht] at ef
            subst ef
            obtain ⟨_, u, e1, e2⟩ := ok
            exact ⟨rfl, u, e1, e2.mono x1⟩
          · exact new ht
        rw [ef] at this
        obtain ⟨_, u, e1, e2⟩ := this
        cases e1
        exact q v H' Hx ⟨w'.same0, w'.sub0.trans x1, x2, nb⟩ e2
      | exc c => rw [hz] at q; cases q.1
      | bad => rw [hz] at q; exact q.elim
    | exc c => rw [e] at q; cases q.1
    | brk _ => rw [e] at q; exact q.elim
    | ct _ => rw [e] at q; exact q.elim
    | bad => rw [e] at q; exact q.elim
  refine wpAny_mono (body_ok.run [] s1 (L2.start N [v]) H _ I pre) (fun fl s' hs => ?_) fun e s' hs => hs
  rcases fl with _ | _ | _ | u'
  · obtain ⟨σ', H', J, q⟩ := hs
    exact ⟨V.non, H', J.os, J.bare, J.base, J.hok, rfl, q⟩
  · exact hs.elim fun _ z => z.elim fun _ z => z.2.elim
  · exact hs.elim fun _ z => z.elim fun _ z => z.2.elim
  · obtain ⟨z, σ', H', J, rv', q⟩ := hs
    exact ⟨z, H', J.os, J.bare, J.base, J.hok, rv', q⟩
end
/-! the law is called -/
section
variable {P : Program} {w : World} {K : Fr} {mg mb : Str → Option Value}
theorem law_callG {k : Nat} {fa a : Addr} {x : Str} {ca : Str → Addr} {g : List D → Res} {s : Shared} {vs : List Value} {ns : List Int} (KX : K.In s.heap) (hns : s.heap.Ns mainGlobals mg) (hb : s.heap.Ns builtinsNs mb) (hbb : ∀ x : Str, x ≠ "__name__" → mb x = bootBuiltins x)
    (hlim : s.heap.NoLimit) (hsm : ∃ mm, s.heap.Ns sysModules mm) (hg : s.gens = #[]) (ha : s.heap.get? a = some { cls := .type "list", data := .seq vs.toArray }) (hi : IntsAre vs ns) (hl : ns.length ≤ sizeLine) (hr : Room k callerA)
    (F : ∀ base : Heap, K.In base → base.Ns mainGlobals mg → (∃ mm, base.Ns sysModules mm) → FnG P w K mg base k fa x (spD K ca false 1 g)) (hgood : g [.scr ns] = .ok (.bl true)) :
    codeAny (model P w) callerA (.call (.ref fa) ⟨[.ref a], []⟩) (fun r s' => r = .ok (.ret (.bool true)) ∧ OldK s.heap s'.heap ∧ s'.os = s.os ∧ AllBare s'.gens) s := by
  have rv := vals_ints hi
  have lenV := hi.length
  have key : ∀ H : Hp, Only H → SqL K H a (ns.map V.int) → HOk P w H s.heap → (∀ b, H b ≠ none → b = a ∧ K.lookup a = none) →
      codeAny (model P w) callerA (.call (.ref fa) ⟨[.ref a], []⟩) (fun r s' => r = .ok (.ret (.bool true)) ∧ OldK s.heap s'.heap ∧ s'.os = s.os ∧ AllBare s'.gens) s := by
    intro H hO hS hok hA
    have out : ∀ {b : Addr} {o : Obj} {es : Array DictEntry} {ep : Nat}, s.heap.get? b = some o → o.data = .dict es ep → H b = none := by
      intro b o es ep e d
      refine Classical.byContradiction fun q => ?_
      rw [(hA b q).1, ha] at e
      cases e
      exact Data.noConfusion d
    have nsK : ∀ {b : Addr} {m : Str → Option Value}, s.heap.Ns b m → (hidT s.heap H).Ns b m := by
      rintro b m ⟨o, es, ep, e, d, r⟩
      exact ⟨o, es, ep, hidT_get e (out e d), d, r⟩
    have kin : K.In (hidT s.heap H) := by
      intro b o e
      refine hidT_get (KX b o e) (Classical.byContradiction fun q => ?_)
      rw [(hA b q).1, (hA b q).2] at e
      cases e
    have hM : Mod K mg (hidT s.heap H) := by
      obtain ⟨mc, h1, h2⟩ := hlim
      exact ⟨kin, nsK hns, ⟨mb, nsK hb, hbb⟩, mc, nsK h1, h2⟩
    have e0 : Env0 P w K mg (hidT s.heap H) callerA [] s H := by
      refine ⟨rfl, hM, fun b o e => of_hidT e, Nat.le_of_eq (hidT_size _ _), trivial, fun b hb => ?_, hok, .of_eq hg⟩
      exact absurd (show b ∈ ([] : List Addr) from hb) (by simp)
    have sp0 : spD K ca false 1 g [.ref a] H (fun v _ => v = .bl true) (fun _ _ _ => False) :=
      ⟨rfl, H, [.scr ns], fun _ _ z => z, ⟨_, _, rfl, ⟨a, rfl, hS⟩, rfl⟩, by rw [hgood]; exact fun v H' Hf' _ r => r⟩
    refine codeAny_mono ((F _ kin (nsK hns) (hsm.imp fun _ h => nsK h)).run callerA s H (.ref a) (.ref a) _ rfl hr e0 rfl sp0) fun r s' h => ?_
    rcases r with e | fl
    · exact h.elim
    rcases fl with _ | _ | _ | u
    · exact h.elim
    · exact h.elim
    · exact h.elim
    obtain ⟨v, H', os, bare, un, hok', r', q⟩ := h
    cases (show v = .bl true from q)
    obtain rfl : u = Value.bool true := r'
    refine ⟨rfl, OldK.of_keep (fun b o e => ?_), os, bare⟩
    rcases hO b with z | ⟨ob, xs, z⟩
    · exact un.keep b o e z (fun z => absurd (show b ∈ ([] : List Addr) from z) (by simp)) (by simp)
    · obtain ⟨e1, _⟩ := hok b _ z
      obtain ⟨e2, _⟩ := hok' b _ (un.frzs b ob _ z)
      rw [e] at e1
      cases e1
      exact e2
  cases hk : K.lookup a with
  | some o =>
    have e := KX a o hk
    rw [ha] at e
    cases e
    refine key (fun _ => none) (fun _ => .inl rfl) (.inr ⟨_, vs.toArray, _, hk, rfl, rfl, rfl, by rw [List.size_toArray, lenV]; exact hl, by simpa using rv⟩) (fun b u z => ?_) (fun b z => absurd rfl z)
    cases z
  | none =>
    let T : Hp := fun b => if b = a then some (.frz { cls := .type "list", data := .seq vs.toArray } (.lst (ns.map V.int))) else none
    have T1 : T a = some (.frz { cls := .type "list", data := .seq vs.toArray } (.lst (ns.map V.int))) := if_pos rfl
    have T2 : ∀ b, b ≠ a → T b = none := fun b h => if_neg h
    refine key T (fun b => ?_) (.inl (.inr ⟨_, T1⟩)) (fun b u z => ?_) (fun b z => ⟨Classical.byContradiction fun h => z (T2 b h), hk⟩)
    · by_cases h : b = a
      · subst h; exact .inr ⟨_, _, T1⟩
      · exact .inl (T2 b h)
    · by_cases h : b = a
      · subst h
        rw [T1] at z
        cases z
        exact ⟨ha, by rw [List.length_map]; exact hl, vs, _, rv, ha⟩
      · rw [T2 b h] at z; cases z
theorem walkG {l : PySem.W.OpenLaw} {q : Program} {loose : List Str} {XP : (Str → Option Value) → Heap → Prop} {YP : World → Heap → Prop} {d : DefRec} {K : Params → PySem.W.Frag} {k : Nat} {x : Str} {ca : Str → Addr} (g : List D → Res) (hgood : ∀ ns : List Int, g [.scr ns] = .ok (.bl true)) (hk : k ≤ 40) (hn : l.most = some 63) (hdf : d.params.defaults = [])
    (hq : importsNone q = true) (hY : ∀ (w : World) (h : Heap), YP w h → (K w.params).In h)
    (F : ∀ (w : World) (mg : Str → Option Value) (fa : Addr) (h : Heap), (K w.params).In h → h.Ns mainGlobals mg → mg d.name = some (.ref fa) →
      ∀ base : Heap, (K w.params).In base → base.Ns mainGlobals mg → (∃ mm, base.Ns sysModules mm) → FnG l.prog w (K w.params) mg base k fa x (spD (K w.params) ca false 1 g)) :
    PySem.W.WalkO q loose XP YP l.row.toRowW d [] (fun f vs => PySem.call f vs) := by
  refine Att.attach_call hn hdf ?_
  intro w s₀ s₁ mg mb fa o pm cd doc a vs ns G Y ho hd hcd hmg hobj hints hlen hg
  have KX := hY w _ Y
  exact law_callG KX G.T.g G.T.b G.T.builtins G.T.nolimit (by obtain ⟨mm, h, _⟩ := (G.T.seer hq).mods; exact ⟨mm, h⟩) hg hobj hints (Nat.le_trans hlen (by decide)) ((show Room 40 callerA from ⟨rfl, by decide, by decide⟩).mono hk) (F w mg fa _ KX G.T.g hmg) (hgood ns)
end
theorem FnG.ca {P : Program} {w : World} {K : Fr} {mg : Str → Option Value} {base : Heap} {k : Nat} {f : Addr} {x : Str} {ca ca' : Str → Addr} {g : List D → Res} (F : FnG P w K mg base k f x (spD K ca false 1 g)) : FnG P w K mg base k f x (spD K ca' false 1 g) :=
  ⟨fun A s H v u Q h1 h2 h3 h4 ⟨q1, Hf, ds, q2, q3, q4⟩ => F.run A s H v u Q h1 h2 h3 h4 ⟨q1, Hf, ds, q2, q3, by
    cases e : g ds with
    | ok d => rw [e] at q4; exact q4
    | exc c => rw [e] at q4; cases q4.1
    | bad => rw [e] at q4; exact q4.elim⟩⟩
end DL

/-! DT: str of data. -/
namespace DL
open PySem PySem.Spec PyProof.Rows L2
/-- what str may be asked of -/
def shOk : Nat → D → Bool
  | _, .non => true
  | _, .bl _ => true
  | _, .int i => decide (i.natAbs < 2 ^ 64)
  | _, .str x => true
  | n + 1, .lst xs => xs.all (shOk n)
  | n + 1, .tup xs => xs.all (shOk n)
  | _, .emp => true
  | _, _ => false
mutual
def wtD : D → Nat
  | .non => 4
  | .bl _ => 5
  | .int _ => 66
  | .str x => (reprText x).length
  | .lst xs => 2 + wtL xs
  | .tup xs => 3 + wtL xs
  | .emp => 2
  | _ => 0
def wtL : List D → Nat
  | [] => 0
  | x :: xs => wtD x + 2 + wtL xs
end
theorem ofString_len (x : String) : (Str.ofString x).length = x.length := PySem.ofString_length x
theorem textFrom_le : ∀ (ts : List Str) (k : Nat) (acc : Str), (textFrom k acc ts).length ≤ acc.length + piled ts
  | [], k, acc => by simp [textFrom]
  | t :: r, k, acc => by
    have ih := textFrom_le r (k + 1) (acc ++ (if k > 0 then ", " else "" : String) ++ t)
    rw [strLen_append, strLen_append] at ih
    have : (Str.ofString (if k > 0 then ", " else "")).length ≤ 2 := by split <;> decide
    rw [piled_cons]
    unfold textFrom
    exact Nat.le_trans ih (by omega)
mutual
theorem shown_le : ∀ (n : Nat) (d : D), shOk n d = true → (toPy d).shown.length ≤ wtD d
  | _, .non, _ => by decide
  | _, .bl b, _ => by cases b <;> decide
  | _, .int i, h => by
    have h1 : i.natAbs < 2 ^ 64 := by cases ‹Nat› <;> exact of_decide_eq_true h
    have h2 : i.natAbs.log2 < 64 := by
      by_cases z : i.natAbs = 0
      · rw [z]; decide
      · exact (Nat.log2_lt z).mpr h1
    have h3 := int_text_length_le (k := 64) (by decide) h2
    show (Str.ofString (toString i)).length ≤ 66
    rw [ofString_len]
    omega
  | _, .str x, _ => Nat.le_refl _
  | n + 1, .lst xs, h => by
    have ih := shown_leL n xs h
    show (listText (PyData.shownAll (toPyL xs))).length ≤ 2 + wtL xs
    unfold listText
    rw [strLen_append]
    have := textFrom_le (PyData.shownAll (toPyL xs)) 0 "["
    have e1 : (Str.ofString "[").length = 1 := by decide
    have e2 : (Str.ofString "]").length = 1 := by decide
    omega
  | n + 1, .tup xs, h => by
    have ih := shown_leL n xs h
    show (tupleText (PyData.shownAll (toPyL xs))).length ≤ 3 + wtL xs
    unfold tupleText
    rw [strLen_append, strLen_append]
    have e1 : (Str.ofString "(").length = 1 := by decide
    have e2 : (Str.ofString (if (PyData.shownAll (toPyL xs)).length == 1 then ",)" else ")")).length ≤ 2 := by split <;> decide
    by_cases z : PyData.shownAll (toPyL xs) = []
    · rw [z] at ih e2 ⊢
      have e3 : (Str.join ", " []).length = 0 := by decide
      omega
    · have e3 := join_length_add _ z
      omega
  | _, .emp, _ => by decide
  | 0, .lst _, h => by cases h
  | 0, .tup _, h => by cases h
  | 0, .dct _, h => by cases h
  | _ + 1, .dct _, h => by cases h
  | 0, .scr _, h => by cases h
  | _ + 1, .scr _, h => by cases h
theorem shown_leL : ∀ (n : Nat) (xs : List D), xs.all (shOk n) = true → piled (PyData.shownAll (toPyL xs)) ≤ wtL xs
  | n, [], _ => by simp [toPyL, PyData.shownAll, piled, wtL]
  | n, x :: xs, h => by
    rw [List.all_cons, Bool.and_eq_true] at h
    have a := shown_le n x h.1
    have b := shown_leL n xs h.2
    rw [toPyL, PyData.shownAll, piled_cons, wtL]
    omega
end
/-! what is read -/
mutual
theorem shOk_able : ∀ (n : Nat) (d : D), shOk n d = true → (toPy d).showable = true
  | _, .non, _ => rfl
  | _, .bl _, _ => rfl
  | _, .int i, h => by
    have h1 : i.natAbs < 2 ^ 64 := by cases ‹Nat› <;> exact of_decide_eq_true h
    have h2 : i.natAbs.log2 < 1920 := by
      by_cases z : i.natAbs = 0
      · rw [z]; decide
      · exact Nat.lt_trans ((Nat.log2_lt z).mpr h1) (by decide)
    exact decide_eq_true h2
  | _, .str _, _ => rfl
  | n + 1, .lst xs, h => shOk_ableL n xs h
  | n + 1, .tup xs, h => shOk_ableL n xs h
  | _, .emp, _ => rfl
  | 0, .lst _, h => by cases h
  | 0, .tup _, h => by cases h
  | 0, .dct _, h => by cases h
  | _ + 1, .dct _, h => by cases h
  | 0, .scr _, h => by cases h
  | _ + 1, .scr _, h => by cases h
theorem shOk_ableL : ∀ (n : Nat) (ds : List D), ds.all (shOk n) = true → PyData.showableAll (toPyL ds) = true
  | _, [], _ => rfl
  | n, d :: ds, h => by
    rw [List.all_cons, Bool.and_eq_true] at h
    rw [toPyL, PyData.showableAll, shOk_able n d h.1, shOk_ableL n ds h.2]; rfl
end
mutual
theorem shOk_depth : ∀ (n : Nat) (d : D), shOk n d = true → (toPy d).depth ≤ 2 * n + 2
  | _, .non, _ => by simp [toPy, PyData.depth]
  | _, .bl _, _ => by simp [toPy, PyData.depth]
  | _, .int _, _ => by simp [toPy, PyData.depth]
  | _, .str _, _ => by simp [toPy, PyData.depth]
  | n + 1, .lst xs, h => by
    have := shOk_depthL n xs h
    simp only [toPy, PyData.depth]; omega
  | n + 1, .tup xs, h => by
    have := shOk_depthL n xs h
    simp only [toPy, PyData.depth]; omega
  | n, .emp, _ => by simp [toPy, PyData.depth, PyData.depthKv]
  | 0, .lst _, h => by cases h
  | 0, .tup _, h => by cases h
  | 0, .dct _, h => by cases h
  | _ + 1, .dct _, h => by cases h
  | 0, .scr _, h => by cases h
  | _ + 1, .scr _, h => by cases h
theorem shOk_depthL : ∀ (n : Nat) (ds : List D), ds.all (shOk n) = true → PyData.depthAll (toPyL ds) ≤ 2 * n + 3
  | _, [], _ => by simp [toPyL, PyData.depthAll]
  | n, d :: ds, h => by
    rw [List.all_cons, Bool.and_eq_true] at h
    have a := shOk_depth n d h.1
    have b := shOk_depthL n ds h.2
    simp only [toPyL, PyData.depthAll]; omega
end
section
variable {X : Cx} {pins : List (Addr × Obj)} {σ : L2.St} {H Hf : Hp} {s : Shared}
theorem sys_ne {a : Addr} {o : Obj} {vs : Array Value} {n : Nat} (I : Inv X pins σ H s) (hb : ∃ mm, X.base.Ns sysModules mm) (e : s.heap.get? a = some o) (d : o.data = .seq vs n) : a ≠ sysModules := fun z => by
  obtain ⟨mm, h⟩ := hb
  obtain ⟨o', es, ep, e', d', _⟩ := h.keeps I.bk
  subst z
  rw [e] at e'
  cases e'
  rw [d] at d'
  cases d'
mutual
theorem Rp.reads (I : Inv X pins σ H s) (hb : ∃ mm, X.base.Ns sysModules mm) (sub : Same Hf H) : ∀ (n : Nat) (d : D) (v : V) (u : Value), shOk n d = true → Rp X.K Hf d v → RelV v u → ∃ as, Reads s.heap u (toPy d) as ∧ sysModules ∉ as
  | _, .non, _, _, _, e, r => by
    cases (show _ = V.non from e); cases r
    exact ⟨_, Reads.none, by simp⟩
  | _, .bl b, _, _, _, e, r => by
    cases (show _ = V.bl b from e); cases r
    exact ⟨_, Reads.bool b, by simp⟩
  | _, .int i, _, _, _, e, r => by
    cases (show _ = V.int i from e)
    obtain ⟨t, rfl⟩ := r
    exact ⟨_, Reads.int i t, by simp⟩
  | _, .str x, _, _, _, e, r => by
    cases (show _ = V.str x from e)
    obtain ⟨t, rfl⟩ := r
    exact ⟨_, Reads.str x t, by simp⟩
  | n + 1, .lst xs, _, _, h, ⟨a, vs, ev, ha, rl⟩, r => by
    subst ev
    cases r
    obtain ⟨its, rv, ⟨o, m, ho, hc, _, hd⟩, _⟩ := I.list (SqL.of (sub _ _ ha))
    obtain ⟨as, hr, hn⟩ := Rp.readsL I hb sub n xs vs its h rl rv
    refine ⟨_, Reads.list ho hc hd hr, fun hm => ?_⟩
    rcases List.mem_cons.mp hm with z | z
    · exact sys_ne I hb ho hd z.symm
    · exact hn z
  | n + 1, .tup xs, _, _, h, ⟨a, vs, ev, ha, rl⟩, r => by
    subst ev
    cases r
    obtain ⟨its, rv, ⟨o, ho, hc, m, hd⟩, _⟩ := I.tuple (SqT.of (sub _ _ ha))
    obtain ⟨as, hr, hn⟩ := Rp.readsL I hb sub n xs vs its h rl rv
    exact ⟨_, Reads.tuple ho hc hd hr, hn⟩
  | _, .emp, _, _, _, ⟨a, ev, ha⟩, r => by
    subst ev
    cases r
    obtain ⟨_, hsm, vs, rel, dd⟩ := dk_of I.hok (sub _ _ ha)
    have ev : vs = [] := by
      have := congrArg List.length rel.keys
      exact List.eq_nil_of_length_eq_zero (by simpa using this.symm)
    subst ev
    obtain ⟨ep, o, es, ho, hex, hd, _, hp, _⟩ := dd.dictAt
    have hl : es.toList = [] := by
      generalize es.toList = l at hp
      cases hp
      rfl
    refine ⟨_, Reads.dict (kvs := []) ho hex.1 hd (by rw [hl]; exact ReadsAll.nil) (by rw [hl]; exact ReadsAll.nil), ?_⟩
    simp
    intro z
    rw [z] at hsm
    simp at hsm
  | 0, .lst _, _, _, h, _, _ => by cases h
  | 0, .tup _, _, _, h, _, _ => by cases h
  | 0, .dct _, _, _, h, _, _ => by cases h
  | _ + 1, .dct _, _, _, h, _, _ => by cases h
  | 0, .scr _, _, _, h, _, _ => by cases h
  | _ + 1, .scr _, _, _, h, _, _ => by cases h
theorem Rp.readsL (I : Inv X pins σ H s) (hb : ∃ mm, X.base.Ns sysModules mm) (sub : Same Hf H) : ∀ (n : Nat) (ds : List D) (vs : List V) (us : List Value), ds.all (shOk n) = true → RpL X.K Hf ds vs → Vals vs us → ∃ as, ReadsAll s.heap us (toPyL ds) as ∧ sysModules ∉ as
  | n, [], vs, us, _, e, r => by
    cases (show vs = [] from e)
    cases r
    exact ⟨_, ReadsAll.nil, by simp⟩
  | n, d :: ds, _, _, h, ⟨v, rest, ev, r1, rl⟩, r => by
    subst ev
    rw [List.all_cons, Bool.and_eq_true] at h
    cases r with
    | cons q1 q2 =>
      obtain ⟨as, a1, a2⟩ := Rp.reads I hb sub n d v _ h.1 r1 q1
      obtain ⟨bs, b1, b2⟩ := Rp.readsL I hb sub n ds rest _ h.2 rl q2
      exact ⟨_, ReadsAll.cons a1 b1, fun z => (List.mem_append.mp z).elim a2 b2⟩
end
end
/-- str(x) -/
def dStr : D → Option D
  | .str x => some (.str x)
  | .non => some (.str "None")
  | .lst xs => if shOk 9 (.lst xs) = true ∧ wtD (.lst xs) ≤ 1000000 then some (.str (toPy (.lst xs)).shown) else none
  | .tup xs => if shOk 9 (.tup xs) = true ∧ wtD (.tup xs) ≤ 1000000 then some (.str (toPy (.tup xs)).shown) else none
  | .emp => some (.str (toPy .emp).shown)
  | _ => none
section
variable {X : Cx}
def rStr (K : Fr) : List V → Hp → VK → Prop := fun xs H Q => ∃ (d : D) (v : V) (Hf : Hp) (z : Str), xs = [v] ∧ Same Hf H ∧ Rp K Hf d v ∧ dStr d = some (.str z) ∧ Q (.str z) H
theorem str_ref {pins : List (Addr × Obj)} {σ : L2.St} {H Hf : Hp} {s : Shared} {d : D} {v : V} {u : Value} {a : Addr} {Q : VK} (hgd : X.A.guards = some []) (hb : ∃ mm, X.base.Ns sysModules mm) (hu : X.A.units + 64 < cLine) (I : Inv X pins σ H s) (sub : Same Hf H) (r : Rp X.K Hf d v) (ru : RelV v u) (hv : v = .ref a)
    (h1 : shOk 9 d = true) (h2 : wtD d ≤ 1000000) (q : Q (.str (toPy d).shown) H) : wpAny (model X.prog X.w) X.A (call (.type "str") [u]) (EP X pins σ Q) X.xe s := by
  obtain ⟨as, hr, hn⟩ := r.reads I hb sub 9 d v u h1 ru
  subst hv
  cases ru
  have hz := shown_le 9 d h1
  have hdp := shOk_depth 9 d h1
  refine str_of_reads hr (shOk_able 9 d h1) (fun _ => hn) hgd (by omega) (fun _ _ e => e) (fun h' t tk hk => ?_) (by rw [sizeLine_eq]; omega)
  exact ⟨.str _, H, I.kept (t' := tk) hk, ⟨t, rfl⟩, q⟩
theorem cr_str (hgd : X.A.guards = some []) (hb : ∃ mm, X.base.Ns sysModules mm) (hu : X.A.units + 64 < cLine) : CallR X (.type "str") (rStr X.K) := by
  rintro pins s σ H xs us Q I r ⟨d, v, Hf, z, rfl, sub, rp, e, q⟩
  obtain ⟨u, rfl, ru⟩ := vals1 r
  cases d with
  | str x =>
    cases (show v = .str x from rp)
    obtain ⟨t, rfl⟩ := ru
    cases e
    exact PySem.P.str_of_str ⟨.str _, H, I, ⟨_, rfl⟩, q⟩
  | non =>
    cases (show v = .non from rp)
    cases ru
    cases e
    exact PySem.P.str_of_none ⟨.str "None", H, I.tok _, ⟨_, rfl⟩, q⟩
  | lst ds =>
    obtain ⟨a, vs, ev, _⟩ := id rp
    simp only [dStr] at e
    split at e
    · rename_i h; cases e
      exact str_ref hgd hb hu I sub rp ru ev h.1 h.2 q
    · cases e
  | tup ds =>
    obtain ⟨a, vs, ev, _⟩ := id rp
    simp only [dStr] at e
    split at e
    · rename_i h; cases e
      exact str_ref hgd hb hu I sub rp ru ev h.1 h.2 q
    · cases e
  | emp =>
    obtain ⟨a, ev, _⟩ := id rp
    cases e
    exact str_ref hgd hb hu I sub rp ru ev (by decide) (by decide) q
  | _ => cases e
def eStr (f : En → Option D) : En → Option D := fun Γ => (f Γ).bind dStr
@[simp] theorem eStr_ap (f : En → Option D) (Γ : En) : eStr f Γ = (f Γ).bind dStr := rfl
theorem ev_str_of {e : Expr} {pos p : Pos} {f : En → Option D} (hgd : X.A.guards = some []) (hb : ∃ mm, X.base.Ns sysModules mm) (hu : X.A.units + 64 < cLine) (hg : Gl X "str") (hm : X.mg "str" = none) (he : EV X e f)
    (hv : bootBuiltins ("str" : Str) = some (.type "str") := by decide +kernel) (hs : starEach [e] X.env = (false, eval e X.env) :: starEach [] X.env := by rfl) (hpl : (backTo pos (starEach [] X.env)).any (·.1) = false := by rfl) :
    EV X (.Call (.Name "str" p) [e] [] pos) (eStr f) := by
  refine ev_of (pe_callTy (cr_str hgd hb hu) hg hm hv (pa_cons he.pe pa_nil hs) (by decide) (by decide) hs hpl) fun σ H Q ⟨Γ, Hf, z, w, e1, q⟩ => ?_
  obtain ⟨d, e2, e3⟩ := Option.bind_eq_some_iff.mp e1
  have hz : ∃ x, z = .str x := by
    cases d <;> simp only [dStr] at e3 <;> first | (cases e3; exact ⟨_, rfl⟩) | (split at e3 <;> cases e3; exact ⟨_, rfl⟩) | cases e3
  obtain ⟨x, rfl⟩ := hz
  exact ⟨Γ, Hf, d, w, e2, fun v H1 Hf1 y r => ⟨d, v, Hf1, x, rfl, y.2.2.1, r, e3, q _ H1 Hf1 y rfl⟩⟩
end
end DL

/-! DS: sets of ints, sorted. -/
namespace DL
open PySem PySem.Spec PyProof.Rows L2
abbrev so0 (w : World) : Obj := { cls := .type "set", dict := none, data := .set #[] 0 (.fresh 0 0 (!w.params.followText "set-order")) }
section
variable {P : Program} {w : World} {A : Around} {E : Value → Shared → Prop} {s : Shared}
set_option maxHeartbeats 3200000 in
theorem call_set_listR {l : Addr} {items : Array Value} (ns : List Int) {Q : Value → Shared → Prop} (hh : A.handled = none) (hl : s.heap.IsList l items) (hit : IntsAre items.toList ns) (hb : ns.length + 1 < scanBound)
    (h : ∀ (h' : Heap) (tk c : Nat), SetR w h' s.heap.objs.size (fun j => decide (j ∈ ns)) c → c ≤ ns.length → (∀ b o, s.heap.get? b = some o → h'.get? b = some o) → Q (.ref s.heap.objs.size) { s with heap := h', toks := tk }) :
    wpAny (model P w) A (call (.type "set") [.ref l]) Q E s := by
  have hisz : items.size = ns.length := by simpa using IntsAre.length hit
  obtain ⟨c, tl, mro⟩ := F.called_set.mro
  have made := F.called_set.made
  have sub := F.called_set.sub
  refine wpAny_call (codeAny_of_tree (show wpAny _ _ (callAny (.type "set") _) _ _ _ from ?_))
  refine wpAny_pure ⟨Code.quiet_builtin _ (by decide +kernel), codeAny_builtin F.entry_type_call ?_⟩
  rw [Around.under_plain (weight_type_call_type "set" [.ref l] []) rfl]
  have n1 := F.called_set.notType
  have n2 := F.called_set.canCreate
  have n3 := F.typeCall_set_1 (.ref l)
  repeat any_goals first | assumption | wp_step
  refine codeAny_mono (code_set_led1 (.ref l) (E := E) (Q₁ := fun obj s₁ => obj = .ref s.heap.objs.size ∧ s₁ = { s with heap := s.heap.push (so0 w) }) ⟨rfl, rfl⟩) fun r s₁ hr => ?_
  rcases r with e | fl
  · exact hr
  rcases fl with _ | _ | _ | obj
  · exact hr
  · exact hr
  · exact hr
  obtain ⟨rfl, rfl⟩ := hr
  have hS : (s.heap.push (so0 w)).get? s.heap.objs.size = some (so0 w) := Heap.get?_push_size _ rfl
  have hT : Shared.TypeIs { s with heap := s.heap.push (so0 w) } (.ref s.heap.objs.size) "set" := ⟨_, hS, rfl⟩
  have n4 := F.called_set.init.lookup
  have n5 := F.called_set.init.bind (.ref s.heap.objs.size)
  repeat any_goals first | assumption | wp_step
  refine codeAny_mono (codeAny_call_builtin (R := wants (fun r s₂ => r = .none ∧ ∃ h' tk c, s₂ = { s with heap := h', toks := tk } ∧ SetR w h' s.heap.objs.size (fun j => decide (j ∈ ns)) c ∧ c ≤ ns.length ∧ ∀ b o, s.heap.get? b = some o → h'.get? b = some o) E)
    F.called_set.init.plain F.entry_set_init (check_set_init_1 hT ?_)) fun r₂ s₂ hr₂ => ?_
  · obtain ⟨⟨ocls, odict, odata, oslots⟩, hol, hcl, nl, hdl⟩ := hl
    simp only at hcl hdl
    subst hcl hdl
    have g1 : (s.heap.push (so0 w)).get? l = some { cls := .type "list", dict := odict, data := .seq items nl, slots := oslots } := Heap.get?_push_of_some _ hol
    have n6 := F.sub_list_set
    have n7 := F.sub_list_frozenset
    have n8 : (Value.type "list" == Value.type "dict") = false := by decide
    have li : (s.heap.push (so0 w)).IsList l items := ⟨_, g1, rfl, nl, rfl⟩
    unfold Builtin.«set.__init__» noKeywords Builtin.Frozenset.updateFrom
    generalize ePI : pyIter = PI
    wp_walk
    subst ePI
    refine wpAny_pyIter_list li (wpAny_bind (wpAny_runValue ?_))
    have ls : l < s.heap.objs.size := Heap.lt_size hol
    have n9 : A.in1.in1.in1.handled = none := by simp [hh]
    have sz : (s.heap.push (so0 w)).objs.size = s.heap.objs.size + 1 := Heap.size_push ..
    have ne1 : l ≠ (s.heap.push (so0 w)).objs.size := by rw [sz]; exact Nat.ne_of_lt (Nat.lt_succ_of_lt ls)
    have ne2 : s.heap.objs.size ∉ [(s.heap.push (so0 w)).objs.size, l] := by
      rw [sz]; simp; exact Nat.ne_of_gt ls
    have val : ∀ (i : Nat) (v : Value), items[i]? = some v → ∃ k t, ns[i]? = some k ∧ v = .int k t := fun i v hv => by
      have hi : i < ns.length := hisz ▸ (Array.getElem?_eq_some_iff.mp hv).1
      obtain ⟨t, e⟩ := PyProof.Rows.IntsAre.int_at hit i v (by simpa using hv)
      exact ⟨ns[i], t, List.getElem?_eq_getElem hi, by rw [e]; simp [List.getElem?_eq_getElem hi]⟩
    refine set_update_ints (Walks.list n9 _ l ne1 items).toS s.heap.objs.size ne2 ns hisz hb val (items.size - 0) 0 _ (by omega) (by omega) ⟨⟨_, Heap.get?_push_size _ rfl, rfl, rfl⟩, li.push _⟩ ?_ ?_
    · exact ⟨0, Nat.le_refl 0, setR_new_at (Heap.get?_push_of_some _ hS)⟩
    · rintro ⟨h', g2, d', tk', os'⟩ c' hm hc' hS'
      obtain rfl : g2 = s.gens := hm.gens
      obtain rfl : d' = s.drawn := hm.drawn
      obtain rfl : os' = s.os := hm.os
      show wpAny _ _ _ _ _ _
      refine wpAny_pure (show wpAny _ _ (ret Value.none) _ _ _ from ?_)
      refine wpAny_pure ⟨rfl, h', tk', c', rfl, hS', hisz ▸ hc', fun b o e => ?_⟩
      have b0 : b < s.heap.objs.size := Heap.lt_size e
      exact hm.heap b o (by rw [sz]; simp; exact ⟨Nat.ne_of_lt b0, Nat.ne_of_lt (Nat.lt_succ_of_lt b0)⟩) (Heap.get?_push_of_some _ (Heap.get?_push_of_some _ e))
  · rcases r₂ with e | fl
    · exact hr₂
    rcases fl with _ | _ | _ | r
    · exact hr₂.elim
    · exact hr₂.elim
    · exact hr₂.elim
    obtain ⟨rfl, h', tk, c', rfl, hS', hc', hk'⟩ := hr₂
    repeat any_goals first | assumption | wp_step
    exact h _ _ _ hS' hc' hk'
end
end DL

/-! DS2: sorted(set(xs)). -/
namespace DL
open PySem PySem.Spec PyProof.Rows L2
theorem mem_ddp : ∀ {ns : List Int} {x : Int}, x ∈ ddp ns ↔ x ∈ ns
  | [], x => by simp [ddp]
  | y :: r, x => by
    rw [ddp, List.mem_cons, List.mem_cons, List.mem_filter, mem_ddp (ns := r)]
    by_cases h : x = y <;> simp [h]
theorem ddp_nodup : ∀ ns : List Int, (ddp ns).Nodup
  | [] => by simp [ddp]
  | y :: r => by
    rw [ddp]
    exact List.nodup_cons.mpr ⟨by simp, List.Pairwise.filter _ (ddp_nodup r)⟩
theorem ddp_len : ∀ ns : List Int, (ddp ns).length ≤ ns.length
  | [] => by simp [ddp]
  | y :: r => by
    rw [ddp, List.length_cons, List.length_cons]
    have h1 := List.length_filter_le (fun z => decide (z ≠ y)) (ddp r)
    have h2 := ddp_len r
    omega
theorem srt_ddp_uniq {ns ms : List Int} (h : ms.Pairwise (· < ·)) (m : ∀ k : Int, k ∈ ms ↔ k ∈ ns) : ms = srt (ddp ns) := by
  refine srt_uniq ?_ (h.imp fun h => Int.le_of_lt h)
  refine (List.perm_ext_iff_of_nodup (h.imp fun h => Int.ne_of_lt h) (ddp_nodup ns)).mpr fun a => ?_
  rw [m, mem_ddp]
section
variable {X : Cx}
def rSetI (K : Fr) (w : World) : List V → Hp → VK → Prop := fun xs H Q => ∃ (l : Addr) (ns : List Int), xs = [.ref l] ∧ SqL K H l (ns.map V.int) ∧ ns.length < 64 ∧ ∀ (p : Addr) (c : Nat), H p = none → c ≤ ns.length → Q (.ref p) (upd H p (SetO w p (fun j => decide (j ∈ ns)) c))
theorem cr_setI (hc : X.calm = true) : CallR X (.type "set") (rSetI X.K X.w) := by
  rintro pins s σ H xs us Q I r ⟨l, ns, rfl, hs, h64, q⟩
  rw [Vals.ref1 r]
  obtain ⟨its, rv, pl, hz⟩ := I.list hs
  have hi := ints_of_vals rv
  refine call_set_listR ns (I.ok.hd hc) pl.isList hi (by unfold scanBound; omega) fun h' tk c R cn k => ?_
  have hn : H s.heap.objs.size = none := I.hok.fresh (Nat.le_refl _)
  exact ⟨.ref s.heap.objs.size, _, I.laid (t' := tk) k (Nat.le_refl _) (setO_new R), rfl, q _ c hn cn⟩
variable {e : Expr} {p1 p2 pos pos2 : Pos} {f : En → Option D}
theorem fv_sortedSet (hc : X.calm = true) (hg : Gl X "sorted") (hm : X.mg "sorted" = none) (hg2 : Gl X "set") (hm2 : X.mg "set" = none) (he : EV X e f)
    (hv : bootBuiltins ("sorted" : Str) = some (.builtin "sorted") := by decide +kernel) (hv2 : bootBuiltins ("set" : Str) = some (.type "set") := by decide +kernel)
    (hs : starEach [e] X.env = (false, eval e X.env) :: starEach [] X.env := by rfl) (hs2 : starEach [.Call (.Name "set" p2) [e] [] pos2] X.env = (false, eval (.Call (.Name "set" p2) [e] [] pos2) X.env) :: starEach [] X.env := by rfl)
    (hpl : (backTo pos2 (starEach [] X.env)).any (·.1) = false := by rfl) (hpl2 : (backTo pos (starEach [] X.env)).any (·.1) = false := by rfl) :
    FV X (.Call (.Name "sorted" p1) [.Call (.Name "set" p2) [e] [] pos2] [] pos) (fSortedSet f) := by
  have h1 : PE X (.Call (.Name "set" p2) [e] [] pos2) (tCB (rSetI X.K X.w) (tCons (tE X.K f) tNil)) := pe_callTy (cr_setI hc) hg2 hm2 hv2 (pa_cons he.pe pa_nil hs) (by decide) (by decide) hs hpl
  refine ⟨PE.imp (pe_callB (cr_sortedSet hc) hg hm hv (pa_cons h1 pa_nil hs2) (by decide) (by decide) hs2 hpl2) fun σ H Q ⟨Γ, Hf, ds, w, e1, q⟩ => ?_⟩
  obtain ⟨d, e2, e3⟩ := Option.bind_eq_some_iff.mp e1
  refine ⟨Γ, Hf, d, w, e2, fun v H1 Hf1 x r => ?_⟩
  unfold dSortedSet at e3
  split at e3
  case h_2 => cases e3
  rename_i xs
  split at e3
  case h_2 => cases e3
  rename_i ns en
  split at e3
  case isFalse => cases e3
  rename_i hl
  cases e3
  obtain ⟨a, vs, rfl, ha, rl⟩ := r
  rw [asInts_eq en] at rl
  rw [rl.ints_eq] at ha
  refine ⟨a, ns, rfl, SqL.of (x.2.2.1 _ _ ha), hl, fun p c hp hc' => ?_⟩
  refine ⟨p, _, c, rfl, upd_same, by omega, fun ms b hms hmem hlen hb => ?_⟩
  have hbp : b ≠ p := fun z => by subst z; rw [upd_same] at hb; cases hb
  have hb1 : H1 b = none := by rw [upd_ne hbp] at hb; exact hb
  have em : ms = srt (ddp ns) := srt_ddp_uniq hms fun k => by rw [hmem k, decide_eq_true_eq]
  subst em
  have x1 : Ext H1 Hf1 (upd (upd H1 p (SetO X.w p (fun j => decide (j ∈ ns)) c)) b (.lst ((srt (ddp ns)).map V.int))) Hf1 := (new_ext x.2.2.1 hp).trans (new_ext (x.2.2.1.trans (same_upd hp)) hb)
  exact q b _ _ Hf1 (x.trans x1) (x.1.free hb1) upd_same (x.2.2.1.free hb1) RpL.ints
end
/-! a name for something borrowed, looked at once, then let go -/
def sBorIf (is : List Nat) (j : Nat) (f : En → Option D) (c : En → Option Bool) (s t : En → Out) : En → Out := fun Γ => match f (frzL is Γ) with
  | some d => match c ((frzL is Γ).set j (.sh d)) with
    | some true => s (Γ.set j .no)
    | some false => t (Γ.set j .no)
    | none => .bad
  | none => .bad
theorem ext_bor {K : Fr} {H0 Hf0 H Hf H' : Hp} {Γ : En} {σ : L2.St} (w : Wf K H0 Hf0 Γ σ H Hf) (s : Same H H') : Ext H Hf H' Hf := by
  refine ⟨s, Same.refl _, fun b u hb => s _ _ (w.sub _ _ hb), fun b => ?_⟩
  cases z : Hf b with
  | none => exact .inl rfl
  | some _ => exact .inr (.inl (fun q => nomatch q))
theorem svs_borif {X : Cx} {xq : XQ} {e c : Expr} {ss ts : List Stmt} {i : Nat} {x : Str} {f : En → Option D} {fc : En → Option Bool} {s t : En → Out} {pos pos' pos2 : Pos} (is : List Nat) (hN : X.N.Nodup) (hi : X.N[i]? = some x) (hx : Loc X.env.scope x) (he : EV X e f) (hc : TV X c fc) (ha : SVs X xq ss s) (hb : SVs X xq ts t)
    (hs : swapsWith e (some (.Name x pos')) pos.line X.env = pure false := by rfl) (hf : X.fn x = true ∨ X.env.scope.names.lookup x = some .local := by first | exact .inl rfl | exact .inr rfl | assumption) :
    SVs X xq [.Assign [.Name x pos'] e pos, .If c ss ts pos2] (sBorIf is i f fc s t) := by
  refine ⟨PSs.imp (pss_cons (ps_set hN hi hx he.pe hs hf) (pss_one (ps_if hc.pt ha.ps hb.ps))) fun Dn σ H ⟨H0, Hf0, Γ, Hf, w, q⟩ => ?_⟩
  unfold sBorIf at q
  obtain ⟨Hf', w', s'⟩ := w.frzL is
  cases e1 : f (frzL is Γ) with
  | none => rw [e1] at q; exact q.elim
  | some d =>
    rw [e1] at q
    dsimp only at q
    refine ⟨_, Hf', d, w'.w0, e1, fun v H1 Hf1 x1 r => ?_⟩
    have w1 := (w'.ext x1).setSh (i := i) r
    cases e2 : fc ((frzL is Γ).set i (.sh d)) with
    | none => rw [e2] at q; exact q.elim
    | some b =>
      rw [e2] at q
      refine ⟨_, Hf1, b, w1.w0, e2, fun H2 Hf2 x2 => ?_⟩
      have w2 := (w.ext (ext_bor w (x1.1.trans x2.1))).no i (some v)
      cases b with
      | true => dsimp only; rw [if_pos rfl]; exact ⟨H0, Hf0, _, Hf, w2, q⟩
      | false => dsimp only; rw [if_neg Bool.false_ne_true]; exact ⟨H0, Hf0, _, Hf, w2, q⟩
@[simp] theorem sBorIf_ap (is : List Nat) (j : Nat) (f : En → Option D) (c : En → Option Bool) (s t : En → Out) (Γ : En) : sBorIf is j f c s t Γ = match f (frzL is Γ) with
  | some d => brO (c ((frzL is Γ).set j (.sh d))) s t (Γ.set j .no)
  | none => .bad := by
  unfold sBorIf brO
  cases f (frzL is Γ) with
  | none => rfl
  | some d => first
    | rfl
    | (dsimp only; rcases c ((frzL is Γ).set j (.sh d)) with _ | _ | _ <;> rfl)
end DL

/-! DP: a dict handed in and changed. -/
namespace DL
open PySem PySem.Spec PyProof.Rows L2
abbrev Kv := List (List Int × D)
/-- all stays but what stands at a -/
structure ExtD (a : Addr) (H Hf H' Hf' : Hp) : Prop where
  keep : ∀ b o, b ≠ a → H b = some o → H' b = some o
  s1 : Same Hf Hf'
  s2 : Same Hf' H'
  na : Hf' a = none
  nw : ∀ b, Hf' b = none ∨ Hf b ≠ none ∨ H b = none ∨ ∃ xs, H b = some (.tup xs)
section
variable {a : Addr} {H Hf H1 Hf1 H2 Hf2 : Hp}
theorem ExtD.trans (x : ExtD a H Hf H1 Hf1) (y : ExtD a H1 Hf1 H2 Hf2) : ExtD a H Hf H2 Hf2 := by
  refine ⟨fun b o hb h => y.keep b o hb (x.keep b o hb h), x.s1.trans y.s1, y.s2, y.na, fun b => ?_⟩
  by_cases hb : b = a
  · subst hb; exact .inl y.na
  · rcases y.nw b with q | q | q | ⟨xs, q⟩
    · exact .inl q
    · rcases x.nw b with z | z | z
      · exact absurd z q
      · exact .inr (.inl z)
      · exact .inr (.inr z)
    · cases e : H b with
      | none => exact .inr (.inr (.inl rfl))
      | some o => rw [x.keep b o hb e] at q; cases q
    · cases e : H b with
      | none => exact .inr (.inr (.inl rfl))
      | some o =>
        rw [x.keep b o hb e] at q; cases q
        exact .inr (.inr (.inr ⟨xs, rfl⟩))
theorem Ext.toD (x : Ext H Hf H1 Hf1) (na : Hf1 a = none) : ExtD a H Hf H1 Hf1 := ⟨fun b o _ h => x.1 b o h, x.2.1, x.2.2.1, na, x.2.2.2⟩
end
section
variable {K : Fr} {H0 Hf0 H Hf H' Hf' : Hp} {Γ : En} {σ : L2.St}
/-- a slot's one object is changed, and all else may grow -/
theorem Wf.swap (w : Wf K H0 Hf0 Γ σ H Hf) {i : Nat} {s : Sl} (hs : Γ[i]? = some s) : ∃ o O, σ[i]? = some o ∧ SlOk K Hf H s o O ∧ (∀ b ∈ O, Hf b = none ∧ H0 b = none) ∧
    ∀ (a : Addr) (s' : Sl) (H' Hf' : Hp), O = [a] → ExtD a H Hf H' Hf' → SlOk K Hf' H' s' o [a] → Wf K H0 Hf0 (Γ.set i s') σ H' Hf' := by
  obtain ⟨ow, h1, h2, h3⟩ := w.own
  obtain ⟨o, e1, e2⟩ := h1 i s hs
  have hi : i < Γ.length := (List.getElem?_eq_some_iff.mp hs).1
  refine ⟨o, ow i, e1, e2, fun b hb => ⟨(h3 i b hb).1, (h3 i b hb).2.1⟩, fun a s' H' Hf' hO x new => ?_⟩
  have ha : a ∈ ow i := by rw [hO]; simp
  have h0a : H0 a = none := (h3 i a ha).2.1
  refine ⟨x.s2, w.sub0.trans x.s1, fun b u hb => ?_, fun b => ?_, by simpa using w.len, ow, fun j t ht => ?_, h2, fun j c hc => ?_⟩
  · have hba : b ≠ a := fun z => by rw [z, h0a] at hb; cases hb
    exact x.keep b u hba (w.same0 b u hb)
  · rcases x.nw b with q | q | q | ⟨xs, q⟩
    · exact .inl q
    · rcases w.new b with z | z | z
      · exact absurd z q
      · exact .inr (.inl z)
      · exact .inr (.inr z)
    · exact .inr (.inr (.inl (w.same0.free q)))
    · cases z : H0 b with
      | none => exact .inr (.inr (.inl rfl))
      | some u =>
        have := w.same0 b u z
        rw [q] at this; cases this
        exact .inr (.inr (.inr ⟨xs, rfl⟩))
  · by_cases hj : j = i
    · subst hj
      rw [List.getElem?_set_self hi] at ht
      cases ht
      exact ⟨o, e1, by rw [hO]; exact new⟩
    · rw [List.getElem?_set_ne (Ne.symm hj)] at ht
      obtain ⟨u, e3, e4⟩ := h1 j t ht
      exact ⟨u, e3, e4.ext x.s1 fun c hc y hy => x.keep c y (fun z => h2 j i hj c hc (by rw [z]; exact ha)) hy⟩
  · by_cases hj : j = i
    · subst hj
      rw [hO] at hc
      simp at hc
      subst hc
      obtain ⟨u, hu, mu⟩ := new.there c (by simp)
      exact ⟨x.na, h0a, u, hu, mu⟩
    · obtain ⟨y, z, u, hu, mu, nt⟩ := h3 j c hc
      have hca : c ≠ a := fun q => h2 j i hj c hc (by rw [q]; exact ha)
      refine ⟨?_, z, u, x.keep c u hca hu, mu, nt⟩
      rcases x.nw c with q | q | q | ⟨xs, q⟩
      · exact q
      · exact absurd y q
      · rw [q] at hu; cases hu
      · rw [q] at hu; cases hu; exact absurd rfl (nt xs)
/-- a dict slot's content -/
def kvOf : Sl → Option Kv
  | .ot kvs => some kvs
  | .od _ kvs => some kvs
  | _ => none
def kvTo : Sl → Kv → Sl
  | .od a _, kvs => .od a kvs
  | _, kvs => .ot kvs
theorem kvOf_ok {s : Sl} {kvs : Kv} {o : Option V} {O : List Addr} (h : kvOf s = some kvs) (ok : SlOk K Hf H s o O) : ∃ a ws, O = [a] ∧ o = some (.ref a) ∧ H a = some (.dT (ktO kvs ws)) ∧ RpL K Hf (kvs.map (·.2)) ws ∧
    ∀ (H' Hf' : Hp) (kvs' : Kv) (ws' : List V), H' a = some (.dT (ktO kvs' ws')) → RpL K Hf' (kvs'.map (·.2)) ws' → SlOk K Hf' H' (kvTo s kvs') o [a] := by
  cases s with
  | ot k =>
    cases h
    obtain ⟨a, ws, eO, eo, ha, r⟩ := ok
    exact ⟨a, ws, eO, eo, ha, r, fun H' Hf' kvs' ws' h1 h2 => ⟨a, ws', rfl, eo, h1, h2⟩⟩
  | od a k =>
    cases h
    obtain ⟨ws, eO, eo, ha, r⟩ := ok
    exact ⟨a, ws, eO, eo, ha, r, fun H' Hf' kvs' ws' h1 h2 => ⟨ws', rfl, eo, h1, h2⟩⟩
  | _ => cases h
theorem kvOf_no {Γ : En} {i : Nat} {kvs : Kv} (h : kvOf (gs Γ i) = some kvs) : Γ[i]? = some (gs Γ i) := gs_get rfl fun z => by rw [z] at h; cases h
end
/-! changing expressions: the value, and the slot's new dict -/
abbrev Mf := En → Option (D × Sl)
def tM (K : Fr) (i : Nat) (f : Mf) : TE := fun σ H Q => ∃ Γ Hf d s a, W0 K Γ σ H Hf ∧ f Γ = some (d, s) ∧ σ[i]? = some (some (.ref a)) ∧ ∀ v H' Hf', ExtD a H Hf H' Hf' → SlOk K Hf' H' s (some (.ref a)) [a] → Rp K Hf' d v → Q v H'
structure MV (X : Cx) (i : Nat) (e : Expr) (f : Mf) : Prop where
  pe : PE X e (tM X.K i f)
/-- a def's promise where its last parameter is a dict that it may change -/
def spF (K : Fr) (n : Nat) (G : List D → Kv → Option (D × Kv)) : Sp := fun vs H Q E => ∃ a us Hf ds kvs ws r kvs', vs = us ++ [.ref a] ∧ us.length = n ∧ Same Hf H ∧ RpL K Hf ds us ∧ Hf a = none ∧ H a = some (.dT (ktO kvs ws)) ∧ RpL K Hf (kvs.map (·.2)) ws ∧ G ds kvs = some (r, kvs') ∧
  ∀ v H' Hf' ws', ExtD a H Hf H' Hf' → H' a = some (.dT (ktO kvs' ws')) → RpL K Hf' (kvs'.map (·.2)) ws' → Rp K Hf' r v → Q v H'
def mCall (G : List D → Kv → Option (D × Kv)) (i : Nat) (fa : En → Option (List D)) : Mf := fun Γ => (fa Γ).bind fun ds => (kvOf (gs Γ i)).bind fun kvs => (G ds kvs).map fun p => (p.1, kvTo (gs Γ i) p.2)
/-- arguments, the last one the dict's name -/
def tAd (K : Fr) (i : Nat) (fa : En → Option (List D)) : TA := fun σ H Q => ∃ Γ Hf ds a, W0 K Γ σ H Hf ∧ fa Γ = some ds ∧ σ[i]? = some (some (.ref a)) ∧ ∀ vs H' Hf', Ext H Hf H' Hf' → RpL K Hf' ds vs → Q (vs ++ [.ref a]) H'
structure AVd (X : Cx) (i : Nat) (es : List Expr) (fa : En → Option (List D)) : Prop where
  pa : PA X es (tAd X.K i fa)
section
variable {X : Cx} {e : Expr} {es : List Expr} {pos : Pos}
theorem avd_last {i : Nat} (ho : PE X e (tVar i)) (hs : starEach [e] X.env = (false, eval e X.env) :: starEach [] X.env := by rfl) : AVd X i [e] aNil :=
  ⟨PA.imp (pa_cons ho pa_nil hs) fun σ H Q ⟨Γ, Hf, ds, a, w, e1, h, q⟩ => by
    cases e1
    exact ⟨_, h, q [] H Hf (Ext.refl w.sub) rfl⟩⟩
theorem avd_cons {i : Nat} {f : En → Option D} {g : En → Option (List D)} (ha : EV X e f) (hr : AVd X i es g) (hs : starEach (e :: es) X.env = (false, eval e X.env) :: starEach es X.env := by rfl) : AVd X i (e :: es) (aCons f g) :=
  ⟨PA.imp (pa_cons ha.pe hr.pa hs) fun σ H Q ⟨Γ, Hf, ds, a, w, e1, h, q⟩ => by
    obtain ⟨d, e2, e3⟩ := Option.bind_eq_some_iff.mp e1
    obtain ⟨r, e4, e5⟩ := Option.map_eq_some_iff.mp e3
    subst e5
    refine ⟨Γ, Hf, d, w, e2, fun v H1 Hf1 x1 r1 => ?_⟩
    exact ⟨Γ, Hf1, r, a, w.ext x1, e4, h, fun vs H2 Hf2 x2 r2 => q (v :: vs) H2 Hf2 (x1.trans x2) ⟨v, vs, rfl, r1.mono x2.2.1, r2⟩⟩⟩
theorem mv_call {CX : CXT} {k n i : Nat} {f : Addr} {fd : FuncData} {ps : List Str} {G : List D → Kv → Option (D × Kv)} {E : XK} {x : Str} {p : Pos} {fa : En → Option (List D)} (F : FnOk X.prog X.w X.K X.mg X.base CX k f fd ps (spF X.K n G)) (hr : Room k X.A) (hg : Gl X x) (hm : X.mg x = some (.ref f)) (hk : PySem.W.keepIn X.K (.ref f) = true) (hb : Binds X.K fd ps []) (hx : Passes CX X E)
    (ha : AVd X i (e :: es) fa) (hn : ∀ Γ ds, fa Γ = some ds → ds.length = n) (hdb : (x == ("__debug__" : Str)) = false := by decide) (he : starEach (e :: es) X.env = (false, eval e X.env) :: starEach es X.env := by rfl) (hpl : (backTo pos (starEach es X.env)).any (·.1) = false := by rfl) :
    MV X i (.Call (.Name x p) (e :: es) [] pos) (mCall G i fa) :=
  ⟨PE.imp (pe_call F hr hg hm hk hb .nil hx ha.pa hdb he hpl) fun σ H Q ⟨Γ, Hf, d, s, a, w, e1, h, q⟩ => by
    obtain ⟨ds, e2, e3⟩ := Option.bind_eq_some_iff.mp e1
    obtain ⟨kvs, e4, e5⟩ := Option.bind_eq_some_iff.mp e3
    obtain ⟨⟨r, kvs'⟩, e6, e7⟩ := Option.map_eq_some_iff.mp e5
    cases e7
    refine ⟨Γ, Hf, ds, a, w, e2, h, fun vs H1 Hf1 x1 r1 => ?_⟩
    obtain ⟨o, O, g1, g2, g3, _⟩ := (w.ext x1).swap (kvOf_no e4)
    obtain ⟨a', ws, rfl, rfl, h3, h4, h5⟩ := kvOf_ok e4 g2
    rw [h] at g1
    cases g1
    refine ⟨a, vs, Hf1, ds, kvs, ws, r, kvs', by rw [List.append_nil], by rw [r1.length]; exact hn _ _ e2, x1.2.2.1, r1, (g3 a (by simp)).1, h3, h4, e6, fun v H' Hf' ws' xd hd rl rv => ?_⟩
    exact q v H' Hf' ((x1.toD (g3 a (by simp)).1).trans xd) (h5 H' Hf' kvs' ws' hd rl) rv⟩
end
end DL

/-! DP2: a dict handed in and changed: defs, comprehensions, tests. -/
namespace DL
open PySem PySem.Spec PyProof.Rows L2
/-! the def -/
def less (a : Addr) (H : Hp) : Hp := fun b => if b = a then none else H b
theorem less_ne {a b : Addr} {H : Hp} (h : b ≠ a) : less a H b = H b := if_neg h
theorem less_at {a : Addr} {H : Hp} : less a H a = none := if_pos rfl
theorem start_wfF {K : Fr} {H Hf : Hp} {N : List Str} {ds : List D} {us ws : List V} {a : Addr} {kvs : Kv} (s : Same Hf H) (r : RpL K Hf ds us) (na : Hf a = none) (ha : H a = some (.dT (ktO kvs ws))) (rl : RpL K Hf (kvs.map (·.2)) ws) :
    Wf K (less a H) Hf (ds.map Sl.sh ++ .od a kvs :: List.replicate (N.length - (ds.length + 1)) .no) (L2.start N (us ++ [.ref a])) H Hf := by
  have hlen := r.length
  refine ⟨s, Same.refl _, fun b o hb => ?_, fun b => ?_, ?_, fun i => if i = ds.length then [a] else [], fun i t ht => ?_, fun i j hij c hc => ?_, fun i c hc => ?_⟩
  · unfold less at hb
    split at hb
    · cases hb
    · exact hb
  · cases e : Hf b with
    | none => exact .inl rfl
    | some _ => exact .inr (.inl (fun q => nomatch q))
  · unfold L2.start
    simp [hlen]
  · unfold L2.start
    by_cases hi : i < ds.length
    · rw [List.getElem?_append_left (by simpa using hi), List.getElem?_map] at ht
      obtain ⟨d, e1, e2⟩ := Option.map_eq_some_iff.mp ht
      subst e2
      obtain ⟨v, e3, e4⟩ := r.get e1
      refine ⟨some v, ?_, ?_, v, rfl, e4⟩
      · rw [List.getElem?_append_left (by simp [hlen]; omega), List.getElem?_map, List.getElem?_append_left (by omega), e3]
        rfl
      · show (if i = ds.length then [a] else []) = []
        rw [if_neg (by omega)]
    · by_cases hi2 : i = ds.length
      · subst hi2
        rw [List.getElem?_append_right (by simp)] at ht
        simp at ht
        subst ht
        refine ⟨some (.ref a), ?_, ws, ?_, rfl, ha, rl⟩
        · rw [List.getElem?_append_left (by simp [hlen]), List.getElem?_map, List.getElem?_append_right (by omega)]
          simp [hlen]
        · show (if ds.length = ds.length then [a] else []) = [a]
          rw [if_pos rfl]
      · have hn := ht
        rw [List.getElem?_append_right (by simp; omega), List.length_map] at ht
        obtain ⟨m, hm⟩ : ∃ m, i - ds.length = m + 1 := ⟨i - ds.length - 1, by omega⟩
        rw [hm, List.getElem?_cons_succ, List.getElem?_replicate] at ht
        split at ht
        · cases ht
          rename_i hlt
          refine ⟨none, ?_, ?_⟩
          · rw [List.getElem?_append_right (by simp [hlen]; omega), List.getElem?_replicate, if_pos]
            simp [hlen]
            omega
          · show (if i = ds.length then [a] else []) = []
            rw [if_neg hi2]
        · cases ht
  · by_cases h1 : i = ds.length
    · show c ∉ (if j = ds.length then [a] else [])
      rw [if_neg (by omega)]
      simp
    · simp [h1] at hc
  · by_cases h1 : i = ds.length
    · simp only [h1, if_true] at hc
      simp at hc
      subst hc
      exact ⟨na, less_at, _, ha, trivial, fun _ z => nomatch z⟩
    · simp [h1] at hc
/-- what a body gives of a dict at an address -/
def RunsF (N : Nat) (body : En → Out) (ds : List D) (kvs : Kv) (r : D) (kvs' : Kv) : Prop := ∀ a, ∃ Γ', body (ds.map Sl.sh ++ .od a kvs :: List.replicate (N - (ds.length + 1)) .no) = .ret r Γ' ∧ Γ'[ds.length]? = some (.od a kvs')
open Classical in
noncomputable def runF (N : Nat) (body : En → Out) (ds : List D) (kvs : Kv) : Option (D × Kv) := if h : ∃ p : D × Kv, RunsF N body ds kvs p.1 p.2 then some h.choose else none
theorem runF_some {N : Nat} {body : En → Out} {ds : List D} {kvs : Kv} {p : D × Kv} (h : runF N body ds kvs = some p) : RunsF N body ds kvs p.1 p.2 := by
  unfold runF at h
  split at h
  · rename_i q
    injection h with h
    rw [← h]
    exact q.choose_spec
  · cases h
theorem runF_of {N : Nat} {body : En → Out} {ds : List D} {kvs : Kv} {r : D} {kvs' : Kv} (h : RunsF N body ds kvs r kvs') : runF N body ds kvs = some (r, kvs') := by
  unfold runF
  have hx : ∃ p : D × Kv, RunsF N body ds kvs p.1 p.2 := ⟨(r, kvs'), h⟩
  rw [dif_pos hx]
  have hs := hx.choose_spec
  generalize hx.choose = p at hs
  obtain ⟨r2, k2⟩ := p
  obtain ⟨Γ1, e1, e2⟩ := h 0
  obtain ⟨Γ2, e3, e4⟩ := hs 0
  rw [e1] at e3
  injection e3 with q1 q2
  subst q2
  rw [e2] at e4
  injection e4 with e4
  injection e4 with _ e4
  dsimp only at q1 e4
  rw [q1, e4]
section
variable {P : Program} {w : World} {K : Fr} {mg : Str → Option Value} {base : Heap}
theorem fn_okF {x qual : Str} {st : Stmt} {f : Addr} {fd : FuncData} {N ps : List Str} {k n : Nat} {body : En → Out} (F : Fun K x qual st f fd) (S : FnScope N ps (defScope st)) (hn : n + 1 = ps.length)
    (h : ∀ (cdv : Value) (A : Around) (outer : List Env) (s : Shared) (H : Hp) (E : XK), Room k (A.deeper (envOfC qual (defScope st) s.heap.objs.size f cdv)) →
      SVs (cxOf CX0 P w K mg base N qual (defScope st) f cdv A outer s H E).nox xq0 (defBody st) body) : FnOk P w K mg base CX0 (k + 1) f fd ps (spF K n (runF N.length body)) := by
  refine F.ok S (fun vs H Q E h => by
    obtain ⟨a, us, _, _, _, _, _, _, rfl, h2, _⟩ := h
    rw [List.length_append, h2, ← hn]; rfl) (fun cdv A outer s H vs Q E hr hsp => ⟨_, (h cdv A outer s H E hr).ps, ?_⟩)
  obtain ⟨a, us, Hf, ds, kvs, ws, r, kvs', rfl, h2, h3, h4, h5, h6, h7, h8, q⟩ := hsp
  refine ⟨less a H, Hf, _, Hf, start_wfF h3 h4 h5 h6 h7, ?_⟩
  obtain ⟨Γ', e1, e2⟩ := runF_some h8 a
  rw [e1]
  intro v σ' H' Hf' w' r'
  obtain ⟨o, O, g1, ⟨ws', rfl, rfl, g4, g5⟩, g6, _⟩ := w'.swap e2
  refine q v H' Hf' ws' ⟨fun b o hb hh => w'.same0 b o (by rw [less_ne hb]; exact hh), w'.sub0, w'.sub, (g6 a (by simp)).1, fun b => ?_⟩ g4 g5 r'
  by_cases hb : b = a
  · subst hb; exact .inl (g6 b (by simp)).1
  · have := w'.new b
    rw [less_ne hb] at this
    exact this
/-- a promise that is never asked -/
theorem fn_never {f : Addr} {fd : FuncData} {ps : List Str} {k n : Nat} : FnOk P w K mg base CX0 k f fd ps (spF K n fun _ _ => none) :=
  ⟨fun vs H Q E ⟨_, _, _, _, _, _, _, _, _, _, _, _, _, _, _, h, _⟩ => (by cases h), fun A outer s H args us vs Q E _ _ _ _ ⟨_, _, _, _, _, _, _, _, _, _, _, _, _, _, _, h, _⟩ => (by cases h)⟩
end
/-! tests that change -/
abbrev Mb := En → Option (Bool × Sl)
def tMT (K : Fr) (i : Nat) (c : Mb) : TT := fun σ H Q => ∃ Γ Hf b s a, W0 K Γ σ H Hf ∧ c Γ = some (b, s) ∧ σ[i]? = some (some (.ref a)) ∧ ∀ H' Hf', ExtD a H Hf H' Hf' → SlOk K Hf' H' s (some (.ref a)) [a] → Q b H'
structure MT (X : Cx) (i : Nat) (e : Expr) (c : Mb) : Prop where
  pt : PT X e (tMT X.K i c)
structure MW (X : Cx) (i : Nat) (e : Expr) (c : Mb) : Prop where
  pw : PW X e (tMT X.K i c)
def mTst (h : D → D → Option D) (f : En → Option D) (g : Mf) : Mb := fun Γ => (f Γ).bind fun d => (g Γ).bind fun p => ((h d p.1).bind isBl).map fun b => (b, p.2)
def mAnd (i : Nat) (c : En → Option Bool) (m : Mb) : Mb := fun Γ => (c Γ).bind fun b => if b = true then m Γ else (kvOf (gs Γ i)).map fun _ => (false, gs Γ i)
section
variable {X : Cx} {xq : XQ} {e a b : Expr} {pos : Pos} {i : Nat}
theorem mt_cmp {op : CmpOp} {r : R2} {f : En → Option D} {g : Mf} {h : D → D → Option D} (ho : OpR X (compareOp op) r) (hr : R2d X.K r h) (ha : EV X a f) (hb : MV X i b g) (hm : behindInMarks op b = false) : MT X i (.Compare a [op] [b] pos) (mTst h f g) :=
  ⟨PT.imp (pt_cmpR ho ha.pe hb.pe hm) fun σ H Q ⟨Γ, Hf, z, s, ad, w, e1, hσ, q⟩ => by
    obtain ⟨d, e2, e3⟩ := Option.bind_eq_some_iff.mp e1
    obtain ⟨p, e4, e5⟩ := Option.bind_eq_some_iff.mp e3
    obtain ⟨z', e6, e7⟩ := Option.map_eq_some_iff.mp e5
    cases e7
    obtain ⟨y, e8, e9⟩ := Option.bind_eq_some_iff.mp e6
    refine ⟨Γ, Hf, d, w, e2, fun v H1 Hf1 x1 r1 => ?_⟩
    refine ⟨Γ, Hf1, p.1, p.2, ad, w.ext x1, e4, hσ, fun u H2 Hf2 x2 ok2 r2 => ?_⟩
    refine hr d p.1 y e8 H2 Hf2 v u _ x2.s2 (r1.mono x2.s1) r2 fun w' H' Hf' x3 r3 => ?_
    cases y with
    | bl k =>
      cases e9
      refine ⟨_, r3, q H' Hf' ?_ ?_⟩
      · have na3 : Hf' ad = none := by
          obtain ⟨ow, hh⟩ : ∃ u, H2 ad = some u ∧ Mut (some u) ∧ ∀ xs, u ≠ .tup xs := ok2.there ad (by simp)
          rcases x3.2.2.2 ad with z | z | z | ⟨xs, z⟩
          · exact z
          · exact absurd x2.na z
          · rw [hh.1] at z; cases z
          · rw [hh.1] at z; cases z; exact absurd rfl (hh.2.2 xs)
        have x1d : ExtD ad H Hf H1 Hf1 := by
          refine x1.toD ?_
          cases z : Hf1 ad with
          | none => rfl
          | some o => exact absurd (x2.s1 ad o z) (by rw [x2.na]; exact fun q => nomatch q)
        exact (x1d.trans x2).trans (x3.toD na3)
      · exact ok2.ext x3.2.1 fun c _ u hu => x3.1 c u hu
    | _ => cases e9⟩
theorem mw_and1 {m : Mb} (h : MT X i a m) : MW X i (.BoolOp .And [a] pos) m := ⟨pw_and1 h.pt⟩
theorem mt_w {m : Mb} (h : MW X i e m) : MT X i e m := ⟨h.pw.pt⟩
theorem mw_and {rest : List Expr} {c : En → Option Bool} {m : Mb} (ha : TV X a c) (hb : MW X i (.BoolOp .And (b :: rest) pos) m) : MW X i (.BoolOp .And (a :: b :: rest) pos) (mAnd i c m) := by
  refine ⟨PW.imp (pw_and ha.pt hb.pw) fun σ H Q ⟨Γ, Hf, z, s, ad, w, e1, hσ, q⟩ => ?_⟩
  obtain ⟨k, e2, e3⟩ := Option.bind_eq_some_iff.mp e1
  refine ⟨Γ, Hf, k, w, e2, fun H' Hf' x => ?_⟩
  cases k with
  | true =>
    rw [if_pos rfl] at e3 ⊢
    refine ⟨Γ, Hf', z, s, ad, w.ext x, e3, hσ, fun H2 Hf2 y ok => q H2 Hf2 ?_ ok⟩
    refine (x.toD ?_).trans y
    cases z : Hf' ad with
    | none => rfl
    | some o => exact absurd (y.s1 ad o z) (by rw [y.na]; exact fun q => nomatch q)
  | false =>
    rw [if_neg Bool.false_ne_true] at e3
    obtain ⟨kvs, e4, e5⟩ := Option.map_eq_some_iff.mp e3
    cases e5
    rw [if_neg Bool.false_ne_true]
    obtain ⟨o, O, g1, g2, g3, _⟩ := (w.ext x).swap (kvOf_no e4)
    obtain ⟨a', ws, rfl, rfl, h3, h4, h5⟩ := kvOf_ok e4 g2
    rw [hσ] at g1
    cases g1
    exact q H' Hf' (x.toD (g3 ad (by simp)).1) g2
def sIfM (i : Nat) (c : Mb) (s t : En → Out) : En → Out := fun Γ => match c Γ with
  | some (true, z) => (match kvOf (gs Γ i) with
    | some _ => s (Γ.set i z)
    | none => .bad)
  | some (false, z) => (match kvOf (gs Γ i) with
    | some _ => t (Γ.set i z)
    | none => .bad)
  | none => .bad
theorem sv_ifM {c : Expr} {m : Mb} {ss ts : List Stmt} {s t : En → Out} (hc : MT X i c m) (ha : SVs X xq ss s) (hb : SVs X xq ts t) : SV X xq (.If c ss ts pos) (sIfM i m s t) := by
  refine ⟨PS.imp (ps_if hc.pt ha.ps hb.ps) fun D σ H ⟨H0, Hf0, Γ, Hf, w, q⟩ => ?_⟩
  unfold sIfM at q
  cases e1 : m Γ with
  | none => rw [e1] at q; exact q.elim
  | some p =>
    obtain ⟨k, z⟩ := p
    rw [e1] at q
    have hk : ∃ kvs, kvOf (gs Γ i) = some kvs := by
      cases k <;> (dsimp only at q; split at q; exact ⟨_, by assumption⟩; exact q.elim)
    obtain ⟨kvs, e4⟩ := hk
    obtain ⟨o, O, g1, g2, g3, g4⟩ := w.swap (kvOf_no e4)
    obtain ⟨ad, ws, rfl, rfl, h3, h4, h5⟩ := kvOf_ok e4 g2
    refine ⟨Γ, Hf, k, z, ad, w.w0, e1, g1, fun H' Hf' x ok => ?_⟩
    have w2 := g4 ad z H' Hf' rfl x ok
    cases k with
    | true => dsimp only at q; rw [e4] at q; dsimp only; rw [if_pos rfl]; exact ⟨H0, Hf0, _, Hf', w2, q⟩
    | false => dsimp only at q; rw [e4] at q; dsimp only; rw [if_neg Bool.false_ne_true]; exact ⟨H0, Hf0, _, Hf', w2, q⟩
def sRetM (i : Nat) (f : Mf) : En → Out := fun Γ => match f Γ with
  | some (d, z) => (match kvOf (gs Γ i) with
    | some _ => .ret d (Γ.set i z)
    | none => .bad)
  | none => .bad
theorem sv_retM {f : Mf} (he : MV X i e f) : SV X xq (.Return (some e) pos) (sRetM i f) := by
  refine ⟨PS.imp (ps_ret he.pe) fun D σ H ⟨H0, Hf0, Γ, Hf, w, q⟩ => ?_⟩
  unfold sRetM at q
  cases e1 : f Γ with
  | none => rw [e1] at q; exact q.elim
  | some p =>
    obtain ⟨d, z⟩ := p
    rw [e1] at q
    dsimp only at q
    cases e4 : kvOf (gs Γ i) with
    | none => rw [e4] at q; exact q.elim
    | some kvs =>
      rw [e4] at q
      obtain ⟨o, O, g1, g2, g3, g4⟩ := w.swap (kvOf_no e4)
      obtain ⟨ad, ws, rfl, rfl, h3, h4, h5⟩ := kvOf_ok e4 g2
      exact ⟨Γ, Hf, d, z, ad, w.w0, e1, g1, fun v H' Hf' x ok r => q v σ H' Hf' (g4 ad z H' Hf' rfl x ok) r⟩
end
end DL

/-! DP3: a comprehension whose element changes a dict. -/
namespace DL
open PySem PySem.Spec PyProof.Rows L2
def compM (b : Bd) (G : Mf) (i : Nat) (Γw : En) : Sl → List D → Option (List D × Sl)
  | s, [] => (kvOf s).map fun _ => ([], s)
  | s, x :: r => (kvOf s).bind fun _ => (b x (Γw.set i s)).bind fun Γ1 => (G Γ1).bind fun p => (compM b G i Γw p.2 r).map fun q => (p.1 :: q.1, q.2)
def mComp (vs : List Nat) (f : En → Option (List D)) (b : Bd) (G : Mf) (i : Nat) : Mf := fun Γ => (f Γ).bind fun ds => if ds.length ≤ 1000000 then (compM b G i (wipeE Γ vs) (gs Γ i) ds).map fun p => (.lst p.1, p.2) else none
theorem wipe_get {Γ : En} {i : Nat} : ∀ {vs : List Nat}, i ∉ vs → (wipeE Γ vs)[i]? = Γ[i]?
  | [], _ => rfl
  | v :: vs, h => by
    show ((wipeE Γ vs).set v .no)[i]? = _
    rw [List.getElem?_set_ne (fun e => h (by simp [e]))]
    exact wipe_get fun z => h (by simp [z])
theorem set_back {α : Type} {xs : List α} {i : Nat} {x : α} (h : xs[i]? = some x) : xs.set i x = xs := by
  refine List.ext_getElem? fun j => ?_
  by_cases e : j = i
  · subst e
    rw [List.getElem?_set_self (List.getElem?_eq_some_iff.mp h).1, h]
  · rw [List.getElem?_set_ne (Ne.symm e)]
theorem no_up {a : Addr} {H Hf H' Hf' : Hp} (x : ExtD a H Hf H' Hf') : Hf a = none := by
  cases z : Hf a with
  | none => rfl
  | some o => exact absurd (x.s1 a o z) (by rw [x.na]; exact fun q => nomatch q)
theorem tLcM_of {K : Fr} {ts vs : List Nat} {f : En → Option (List D)} {b : Bd} {G : Mf} {i : Nat} (hs : ∀ j ∈ ts, j ∈ vs) (hiv : i ∉ vs) {σ : L2.St} {H : Hp} {Q : VK}
    (q : tM K i (mComp vs f b G i) σ H Q) : tLc (tI K f) (tG K ts b) (tT K bYes) (tM K i G) vs σ H Q := by
  obtain ⟨Γ, Hf, dd, sZ, a, w, e1, hσ, q⟩ := q
  obtain ⟨ds, e2, e3⟩ := Option.bind_eq_some_iff.mp e1
  by_cases hlen : ds.length ≤ 1000000
  case neg => rw [if_neg hlen] at e3; cases e3
  rw [if_pos hlen] at e3
  obtain ⟨⟨rs, sE⟩, e33, e4⟩ := Option.map_eq_some_iff.mp e3
  cases e4
  clear e3
  dsimp only at q e33
  have hk0 : ∃ kv0, kvOf (gs Γ i) = some kv0 := by
    cases ds with
    | nil => obtain ⟨k, e, _⟩ := Option.map_eq_some_iff.mp e33; exact ⟨k, e⟩
    | cons x r => obtain ⟨k, e, _⟩ := Option.bind_eq_some_iff.mp e33; exact ⟨k, e⟩
  obtain ⟨kv0, hk0⟩ := hk0
  refine ⟨Γ, Hf, ds, w, e2, fun J H1 Hf1 x ok Dd hD => ?_⟩
  obtain ⟨Γw, hΓw⟩ : ∃ Γw, Γw = wipeE Γ vs := ⟨_, rfl⟩
  have w1 : W0 K Γw (L2.wipe σ vs) H1 Hf1 := by rw [hΓw]; exact (w.ext x).wipe vs
  rw [← hΓw] at e33
  have hgi : Γw[i]? = some (gs Γ i) := by rw [hΓw, wipe_get hiv]; exact kvOf_no hk0
  have hil : i < Γw.length := (List.getElem?_eq_some_iff.mp hgi).1
  have hσw : (L2.wipe σ vs)[i]? = some (some (.ref a)) := by rw [wipe_out hiv]; exact hσ
  have wA : Wf K (upd H00 Dd (.lst [])) Hf1 Γw (L2.wipe σ vs) (upd H1 Dd (.lst [])) Hf1 := w1.rebase.laid hD
  -- the dict stands somewhere else
  have hat : ∃ u, H1 a = some u ∧ Hf1 a = none := by
    obtain ⟨o, O, g1, g2, g3, _⟩ := w1.swap hgi
    obtain ⟨a', ws, rfl, rfl, h3, _⟩ := kvOf_ok hk0 g2
    rw [hσw] at g1
    cases g1
    exact ⟨_, h3, (g3 a (by simp)).1⟩
  obtain ⟨u0, hu0, hna⟩ := hat
  have hDa : Dd ≠ a := fun z => by rw [z, hu0] at hD; cases hD
  let WW : Nat → Nat → Hp → Prop := fun i' m H => ∃ Hf acc rs0 rest s, Wf K (upd H00 Dd (.lst acc)) Hf1 (Γw.set i s) (L2.wipe σ vs) H Hf ∧ Hf Dd = none ∧ RpL K Hf rs0 acc ∧ acc.length ≤ i' ∧ m = ds.length - i' ∧ i' ≤ ds.length ∧ compM b G i Γw s (ds.drop i') = some (rest, sE) ∧ rs = rs0 ++ rest ∧ ExtD a H1 Hf1 H Hf
  have hDf : Hf1 Dd = none := x.2.2.1.free hD
  refine ⟨WW, ⟨ds.length, Hf1, [], [], rs, gs Γ i, by rw [set_back hgi]; exact wA, hDf, rfl, Nat.zero_le _, rfl, Nat.zero_le _, by rw [List.drop_zero]; exact e33, rfl, ⟨fun b o _ h => by rw [upd_ne (ne_of_none h hD)]; exact h, Same.refl _, wA.sub, hna, fun b => ?_⟩⟩, ?_⟩
  · cases z : Hf1 b with
    | none => exact .inl rfl
    | some _ => exact .inr (.inl (fun q => nomatch q))
  rintro i' m H2 ⟨Hf2, acc, rs0, rest, s, w2, hD2, r2, hl2, rfl, hi, e4, e5, xd⟩
  have hHD : H2 Dd = some (.lst acc) := w2.same0 _ _ upd_same
  obtain ⟨go, stop, yld⟩ := ok i' H2 (xd.s1.trans w2.sub)
  have hsi : (Γw.set i s)[i]? = some s := List.getElem?_set_self hil
  by_cases hlt : i' < ds.length
  · refine .inr ⟨go hlt, fun H' => WW (i' + 1) (ds.length - (i' + 1)) H', fun H' z => ⟨_, by omega, z⟩, fun y H' hy => ?_⟩
    obtain ⟨rfl, hr⟩ := yld y H' hy
    have hd := List.getElem?_eq_getElem hlt
    rw [List.drop_eq_getElem_cons hlt] at e4
    unfold compM at e4
    obtain ⟨kv, hk, e6⟩ := Option.bind_eq_some_iff.mp e4
    obtain ⟨Γ1, e6b, e7⟩ := Option.bind_eq_some_iff.mp e6
    obtain ⟨⟨y', s1⟩, e8, e9⟩ := Option.bind_eq_some_iff.mp e7
    obtain ⟨⟨more, sE2⟩, e10, e11⟩ := Option.map_eq_some_iff.mp e9
    cases e11
    refine ⟨_, Hf1, Γw.set i s, Hf2, ds[i'], Γ1, w2, (hr _ hd).mono xd.s1, e6b, fun σ3 hb w3 => ⟨wipe_but hs hb, Γ1, Hf2, true, w3.w0, rfl, fun H3 Hf3 x3 => ?_⟩⟩
    dsimp only
    rw [if_pos rfl]
    have hσ3 : σ3[i]? = some (some (.ref a)) := by rw [hb.2 i fun z => hiv (hs i z)]; exact hσw
    refine ⟨Γ1, Hf3, y', s1, a, (w3.ext x3).w0, e8, hσ3, fun v H4 Hf4 x4 ok4 r4 => ?_⟩
    obtain ⟨o, O, g1, g2, g3, g4⟩ := (w2.ext x3).swap hsi
    obtain ⟨a', ws, rfl, rfl, h3, h4, h5⟩ := kvOf_ok hk g2
    rw [hσw] at g1
    cases g1
    have w4 := g4 a s1 H4 Hf4 rfl x4 ok4
    rw [List.set_set] at w4
    have hD3 : Hf3 Dd = none := by
      rcases x3.2.2.2 Dd with z | z | z | ⟨xs, z⟩
      · exact z
      · exact absurd hD2 z
      · rw [hHD] at z; cases z
      · rw [hHD] at z; cases z
    have hH3 : H3 Dd = some (.lst acc) := x3.1 _ _ hHD
    have hD4 : Hf4 Dd = none := by
      rcases x4.nw Dd with z | z | z | ⟨xs, z⟩
      · exact z
      · exact absurd hD3 z
      · rw [hH3] at z; cases z
      · rw [hH3] at z; cases z
    have hH4 : H4 Dd = some (.lst acc) := x4.keep Dd _ hDa hH3
    have x34 : ExtD a H1 Hf1 H4 Hf4 := (xd.trans (x3.toD (no_up x4))).trans x4
    refine ⟨acc, hH4, Nat.lt_of_le_of_lt hl2 (Nat.lt_of_lt_of_le hlt (Nat.le_trans hlen (by rw [sizeLine_eq]; decide))), ?_⟩
    have w5 : Wf K (upd H00 Dd (.lst (acc ++ [v]))) Hf1 (Γw.set i s1) (L2.wipe σ vs) (upd H4 Dd (.lst (acc ++ [v]))) Hf4 := w4.poke rfl hD4
    refine ⟨Hf4, acc ++ [v], rs0 ++ [y'], more, s1, w5, hD4, (r2.mono (x3.2.1.trans x4.s1)).append (.one r4), by simp; omega, rfl, hlt, e10, by rw [e5]; simp, ⟨fun b o hb h => by rw [upd_ne (ne_of_none h hD)]; exact x34.keep b o hb h, x34.s1, w5.sub, x34.na, x34.nw⟩⟩
  · have e : i' = ds.length := by omega
    refine .inl ⟨stop e, ?_⟩
    rw [e, List.drop_length] at e4
    obtain ⟨kv, hk, e6⟩ := Option.map_eq_some_iff.mp e4
    cases e6
    rw [List.append_nil] at e5
    subst e5
    obtain ⟨o, O, g1, g2, g3, _⟩ := w2.swap hsi
    obtain ⟨a', ws, rfl, rfl, h3, h4, h5⟩ := kvOf_ok hk g2
    rw [hσw] at g1
    cases g1
    obtain ⟨f1, f2⟩ := freeze w2.sub hHD hD2
    have xx := (x.toD hna).trans xd
    refine q (.ref Dd) H2 (upd Hf2 Dd (.lst acc)) ⟨xx.keep, xx.s1.trans f1, f2, by rw [upd_ne hDa.symm]; exact xx.na, fun b => ?_⟩ (g2.ext f1 fun c _ y hy => hy) ⟨Dd, acc, rfl, upd_same, r2.mono f1⟩
    by_cases hb : b = Dd
    · subst hb; exact .inr (.inr (.inl (x.1.free hD)))
    · rw [upd_ne hb]; exact xx.nw b
section
variable {X : Cx} {xq : XQ} {elt tg iter e o : Expr} {scope : Scope} {pos : Pos}
theorem mv_lc {i : Nat} {own : List (Str × Nat)} {ts : List Nat} {f : En → Option (List D)} {b : Bd} {G : Mf} (hc : X.calm = true) (hN : X.N.Nodup) (hi : IV X tg iter f) (ok : BlkOk X.N X.env.scope scope own)
    (hg : ∀ (s : Shared) (H : Hp) (C : Addr) (cl : List (Str × Addr)) (fp : List Addr), GV (X.blk s H scope (compEnvC scope cl C X.env) fp) tg ts b) (ht : ∀ (s : Shared) (H : Hp) (C : Addr) (cl : List (Str × Addr)) (fp : List Addr), TsV (X.blk s H scope (compEnvC scope cl C X.env) fp) [] bYes)
    (he : ∀ (s : Shared) (H : Hp) (C : Addr) (cl : List (Str × Addr)) (fp : List Addr), MV (X.blk s H scope (compEnvC scope cl C X.env) fp) i elt G) (hs2 : ∀ j ∈ ts, j ∈ own.map (·.2) := by decide) (hiv : i ∉ own.map (·.2) := by decide) (hs : ∀ x, foldedSetIterable iter X.env x = pure x := by intro _; rfl) :
    MV X i (.ListComp elt [⟨tg, iter, [], 0⟩] scope pos) (mComp (own.map (·.2)) f b G i) :=
  ⟨PE.imp (pe_lc hc hN hi.pi ok (fun s H C cl fp => (hg s H C cl fp).pg) (fun s H C cl fp => (ht s H C cl fp).pt) (fun s H C cl fp => (he s H C cl fp).pe) hs) fun _ _ _ q => tLcM_of hs2 hiv q⟩
/-! a handed-in dict, looked at and changed -/
def otS : Sl → Sl
  | .od _ kvs => .ot kvs
  | s => s
def otL (Γ : En) : En := Γ.map otS
theorem Wf.otL {K : Fr} {H0 Hf0 H Hf : Hp} {Γ : En} {σ : L2.St} (w : Wf K H0 Hf0 Γ σ H Hf) : Wf K H0 Hf0 (otL Γ) σ H Hf := by
  refine ⟨w.sub, w.sub0, w.same0, w.new, by rw [← w.len]; simp [DL.otL], ?_⟩
  obtain ⟨ow, h1, h2, h3⟩ := w.own
  refine ⟨ow, fun i t ht => ?_, h2, h3⟩
  unfold DL.otL at ht
  rw [List.getElem?_map] at ht
  obtain ⟨s, e1, e2⟩ := Option.map_eq_some_iff.mp ht
  obtain ⟨o, e3, e4⟩ := h1 i s e1
  refine ⟨o, e3, ?_⟩
  subst e2
  cases s with
  | od a kvs =>
    obtain ⟨ws, q1, q2, q3, q4⟩ := e4
    exact ⟨a, ws, q1, q2, q3, q4⟩
  | _ => exact e4
def eOt (f : En → Option D) : En → Option D := fun Γ => f (otL Γ)
def bOt (f : En → Option Bool) : En → Option Bool := fun Γ => f (otL Γ)
theorem ev_ot {f : En → Option D} (h : EV X e f) : EV X e (eOt f) := ev_of h.pe fun σ H Q ⟨Γ, Hf, d, w, e1, q⟩ => ⟨_, Hf, d, w.otL, e1, q⟩
theorem tv_ot {f : En → Option Bool} (h : TV X e f) : TV X e (bOt f) := ⟨PT.imp h.pt fun σ H Q ⟨Γ, Hf, d, w, e1, q⟩ => ⟨_, Hf, d, w.otL, e1, q⟩⟩
def sDputA (i : Nat) (f g : En → Option D) : En → Out := fun Γ => match gs Γ i, f Γ, g Γ with
  | .od a kvs, some (.tup xs), some d => (match asInts xs with
    | some k => if kvs.length < 1000000 then .nx (Γ.set i (.od a (pt kvs k d))) else .bad
    | none => .bad)
  | _, _, _ => .bad
theorem sv_dputA {i : Nat} {value : Expr} {pos' : Pos} {f g : En → Option D} (hu : X.A.units + 1 < cLine) (ho : PE X o (tVar i)) (he : EV X e f) (hv : EV X value g) (hs : swapsWith value (some (.Subscript o e pos')) pos.line X.env = pure false := by rfl) :
    SV X xq (.Assign [.Subscript o e pos'] value pos) (sDputA i f g) := by
  refine ⟨PS.imp (ps_dput hu ho he.pe hv.pe hs) fun Dn σ H ⟨H0, Hf0, Γ, Hf, w, q⟩ => ?_⟩
  unfold sDputA at q
  split at q
  · rename_i ad kvs xs d g1 g2 g3
    split at q
    · rename_i k g4
      split at q
      · rename_i hl
        refine ⟨Γ, Hf, d, w.w0, g3, fun v H1 Hf1 x1 r1 => ?_⟩
        obtain ⟨o, O, e1, ⟨ws, eO, eo, ha, r⟩, _, _⟩ := (w.ext x1).chg (gs_get g1 (fun z => nomatch z))
        subst eO eo
        refine ⟨.ref ad, e1, Γ, Hf1, _, (w.ext x1).w0, g2, fun kv H2 Hf2 x2 r2 => ?_⟩
        obtain ⟨o', O', e1', ⟨ws', eO', eo', ha', r'⟩, _, q'⟩ := (w.ext (x1.trans x2)).chg (gs_get g1 (fun z => nomatch z))
        subst eO' eo'
        obtain ⟨us, p1, p2⟩ := putJ mapinl_inj (k := k) (r1.mono x2.2.1) r'
        obtain ⟨b, rfl, hb⟩ := tup_key x2.2.2.1 g4 r2
        refine ⟨ad, upd H2 ad (.dT (ktO (pt kvs k d) us)), rfl, ?_, q σ _ Hf2 (q' _ _ (fun b hb => upd_ne (by simpa using hb)) ⟨us, rfl, rfl, upd_same, p2⟩)⟩
        have := DPut.t (k := k.map Sum.inl) (v := v) ha' hb (by
          unfold ktO
          rw [List.length_zip, List.length_map, r'.length, List.length_map, Nat.min_self, sizeLine_eq]; omega)
        rw [ktO_zip, p1] at this
        exact this
      · exact q.elim
    · exact q.elim
  · exact q.elim
end
end DL

/-! DQ: sorted(a dict with ints for keys). -/
namespace DL
open PySem PySem.Spec PyProof.Rows L2
section
variable {X : Cx} {o : Expr} {p1 pos : Pos}
theorem fv_sortedK {i : Nat} (hc : X.calm = true) (hg : Gl X "sorted") (hm : X.mg "sorted" = none) (hx : True = True) (ho : PE X o (tVar i))
    (hv : bootBuiltins ("sorted" : Str) = some (.builtin "sorted") := by decide +kernel)
    (hs : starEach [o] X.env = (false, eval o X.env) :: starEach [] X.env := by rfl) (hpl : (backTo pos (starEach [] X.env)).any (·.1) = false := by rfl) :
    FV X (.Call (.Name "sorted" p1) [o] [] pos) (fSortedK i) := by
  refine ⟨PE.imp (pe_callB (call_sortedDI hc) hg hm hv (pa_cons ho pa_nil hs) (by decide) (by decide) hs hpl) fun σ H Q ⟨Γ, Hf, ds, w, e1, q⟩ => ?_⟩
  unfold fSortedK at e1
  split at e1
  case h_2 => cases e1
  rename_i kvs g1
  split at e1
  case isFalse => cases e1
  rename_i hl
  cases e1
  obtain ⟨o', O, e2, ⟨a, ws, eO, eo, ha, r⟩, _, _⟩ := w.chg (gs_get g1 (fun z => nomatch z))
  subst eO eo
  refine ⟨_, e2, a, _, kvs.map (·.1), rfl, .inl ha, ?_, by simpa using hl, fun ys p hp hso hpn => ?_⟩
  · have hlen := r.length
    unfold kvO
    rw [List.map_fst_zip (by simp at hlen ⊢; omega)]
    simp
  · have e3 : ys = srt (kvs.map (·.1)) := srt_uniq hp hso
    rw [e3]
    exact q p _ _ Hf (new_ext w.sub hpn) hpn upd_same (w.sub.free hpn) RpL.ints
end
end DL

namespace B
open PySem PySem.Spec PyProof.Rows L2 DL
noncomputable section
def m_is_whole : En → Out := (sRet (eAnd (eIsi "int" (eVar 0)) (eNot (eIsi "bool" (eVar 0)))))
def g_is_whole : List D → Res := runD 1 m_is_whole
def m_law_spread : En → Out := (sRet (eOp dAdd (eOp dMod (eOp dMul (eVar 0) (eC (.int 48271))) (eC (.int 2147483647))) (eOp dMul (eOp dFdiv (eVar 0) (eC (.int 2147483647))) (eC (.int 2147483647)))))
def g_law_spread : List D → Res := runD 1 m_law_spread
def m_law_tie : En → Out := (sSeq (sSet 2 (eOp dMod (eVar 0) (eVar 1))) (sSeq (sSet 3 (eOp dMod (eOp dAdd (eOp dAdd (eVar 2) (eC (.int 1))) (eOp dMod (eOp dFdiv (eVar 0) (eVar 1)) (eCB dMax2 (aCons (eC (.int 1)) (aCons (eOp dSub (eVar 1) (eC (.int 1))) aNil))))) (eVar 1))) (sRet (eTup (aCons (eCB dMin2 (aCons (eVar 2) (aCons (eVar 3) aNil))) (aCons (eCB dMax2 (aCons (eVar 2) (aCons (eVar 3) aNil))) aNil))))))
def g_law_tie : List D → Res := runD 4 m_law_tie
def m_law_odd : En → Out := (sSeq (sSet 3 (eOp dAdd (eVar 1) (eOp dMod (eOp dFdiv (eVar 0) (eC (.int 20))) (eOp dPow (eC (.int 10)) (eC (.int 9)))))) (sSeq (sSet 4 (eLst (aCons (eTup (aCons (eC (.int 0)) (aCons (eC (.int 0)) aNil))) (aCons (eTup (aCons (eC (.int 0)) (aCons (eVar 1) aNil))) (aCons (eTup (aCons (eNeg (eC (.int 1))) (aCons (eC (.int 0)) aNil))) (aCons (eTup (aCons (eC (.int 0)) (aCons (eVar 3) aNil))) (aCons (eTup (aCons (eC (.int 1)) (aCons (eC (.int 0)) aNil))) (aCons (eTup (aCons (eC (.bl true)) (aCons (eC (.int 2)) aNil))) (aCons (eTup (aCons (eC (.int 0)) (aCons (eC (.bl true)) aNil))) (aCons (eTup (aCons (eC (.str "0")) (aCons (eC (.int 1)) aNil))) (aCons (eTup (aCons (eC (.int 0)) (aCons (eC .non) aNil))) (aCons (eTup (aCons (eC (.int 0)) aNil)) (aCons (eTup (aCons (eC (.int 0)) (aCons (eC (.int 1)) (aCons (eC (.int 1)) aNil)))) aNil))))))))))))) (sSeq (sSet 4 (eOp dAdd (eVar 4) (eLst (aCons (eLst (aCons (eC (.int 0)) (aCons (eC (.int 1)) aNil))) (aCons (eC .non) (aCons (eC (.int 7)) (aCons (eTup (aCons (eC (.int 0)) (aCons (eLst (aCons (eC (.int 1)) aNil)) aNil))) (aCons (eC (.str "01")) aNil)))))))) (sSeq (sIf (tst (eOp dNe (eVar 2) (eLst aNil))) (sSet 4 (eOp dAdd (eVar 4) (eLst (aCons (eOp dIx (eVar 2) (eOp dMod (eOp dFdiv (eVar 0) (eC (.int 20))) (eCB dLen (aCons (eVar 2) aNil)))) (aCons (eTup (aCons (eOp dIx (eOp dIx (eVar 2) (eNeg (eC (.int 1)))) (eC (.int 1))) (aCons (eOp dIx (eOp dIx (eVar 2) (eNeg (eC (.int 1)))) (eC (.int 0))) aNil))) aNil))))) sNil) (sRet (eOp dIx (eVar 4) (eOp dMod (eVar 0) (eCB dLen (aCons (eVar 4) aNil)))))))))
def g_law_odd : List D → Res := runD 5 m_law_odd
def m_is_tie : En → Out := (sSeq (sIf (bOr (bNot (tst (eIsi "tuple" (eVar 0)))) (bOr (tst (eOp dNe (eCB dLen (aCons (eVar 0) aNil)) (eC (.int 2)))) (bOr (bNot (tst (eCall g_is_whole (aCons (eOp dIx (eVar 0) (eC (.int 0))) aNil)))) (bNot (tst (eCall g_is_whole (aCons (eOp dIx (eVar 0) (eC (.int 1))) aNil))))))) (sRet (eC (.bl false))) sNil) (sRet (eChain3 dLe dLt dLt (eC (.int 0)) (eOp dIx (eVar 0) (eC (.int 0))) (eOp dIx (eVar 0) (eC (.int 1))) (eVar 1))))
def g_is_tie : List D → Res := runD 2 m_is_tie
def m_law_cell_at : En → Out := (sSeq (sIf (tst (eOp dLt (eVar 1) (eCB dLen (aCons (eVar 0) aNil)))) (sRet (eCall g_law_spread (aCons (eOp dIx (eVar 0) (eVar 1)) aNil))) sNil) (sRet (eC (.int 0))))
def g_law_cell_at : List D → Res := runD 2 m_law_cell_at
def m_law_ties : En → Out := (sSeq (sOwn 2 (fLst aNil)) (sSeq (sFor (iL (eVar 0)) (bN 3) (sSeq (sSet 4 (eCall g_law_tie (aCons (eVar 3) (aCons (eVar 1) aNil)))) (sIf (bAnd (tst (eOp dNe (eOp dIx (eVar 4) (eC (.int 0))) (eOp dIx (eVar 4) (eC (.int 1))))) (bBor [2] (tst (eOp dNotIn (eVar 4) (eVar 2))))) (sAppend 2 (eVar 4)) sNil))) (sFrz [2] (sRet (eVar 2)))))
def g_law_ties : List D → Res := runD 5 m_law_ties
def m_need_web : En → Out := (sSeq (sIf (bOr (bNot (tst (eCall g_is_whole (aCons (eVar 0) aNil)))) (bOr (bNot (tst (eChain dLe dLe (eC (.int 1)) (eVar 0) (eC (.int 10))))) (bNot (tst (eIsi "list" (eVar 1)))))) (sExc "BadWeb") sNil) (sSeq (sNewT 2) (sFor (iL (eVar 1)) (bN 3) (sSeq (sIf (bOr (bNot (tst (eCall g_is_tie (aCons (eVar 3) (aCons (eVar 0) aNil))))) (tst (eDin 2 (eVar 3)))) (sExc "BadWeb") sNil) (sDput 2 (eVar 3) (eC (.bl true)))))))
def g_need_web : List D → Res := runD 4 m_need_web
def m_x_beside : En → Out := (sSeq (sRExpr (rCall g_need_web (aCons (eVar 0) (aCons (eVar 1) aNil)))) sBad)
def g_x_beside : List D → Res := runD 2 m_x_beside
def m_x_pieces : En → Out := (sSeq (sRExpr (rCall g_need_web (aCons (eVar 0) (aCons (eVar 1) aNil)))) sBad)
def g_x_pieces : List D → Res := runD 4 m_x_pieces
def m_x_is_layout : En → Out := (sSeq (sRExpr (rCall g_need_web (aCons (eVar 0) (aCons (eVar 1) aNil)))) sBad)
def g_x_is_layout : List D → Res := runD 9 m_x_is_layout
def m_x_touch : En → Out := (sSeq (sRExpr (rCall g_need_web (aCons (eVar 0) (aCons (eVar 1) aNil)))) sBad)
def g_x_touch : List D → Res := runD 4 m_x_touch
def m_x_is_thicket : En → Out := (sSeq (sRExpr (rCall g_need_web (aCons (eVar 0) (aCons (eVar 1) aNil)))) sBad)
def g_x_is_thicket : List D → Res := runD 7 m_x_is_thicket
def m_x_need_most : En → Out := (sSeq (sRExpr (rCall g_need_web (aCons (eVar 0) (aCons (eVar 1) aNil)))) sBad)
def g_x_need_most : List D → Res := runD 3 m_x_need_most
def m_x_least : En → Out := (sSeq (sRExpr (rCall g_need_web (aCons (eVar 0) (aCons (eVar 1) aNil)))) sBad)
def g_x_least : List D → Res := runD 3 m_x_least
def m_x_wide : En → Out := (sSeq (sRIfN (rCall g_x_is_layout (aCons (eVar 0) (aCons (eVar 1) (aCons (eVar 2) aNil)))) sBad sNil) sBad)
def g_x_wide : List D → Res := runD 4 m_x_wide
def m_x_colourings : En → Out := (sSeq (sRIfN (rCall g_x_is_layout (aCons (eVar 0) (aCons (eVar 1) (aCons (eVar 2) aNil)))) sBad sNil) sBad)
def g_x_colourings : List D → Res := runD 13 m_x_colourings
def m_x_least_hit : En → Out := (sSeq (sRIfN (rCall g_x_is_thicket (aCons (eVar 0) (aCons (eVar 1) (aCons (eVar 2) aNil)))) sBad sNil) sBad)
def g_x_least_hit : List D → Res := runD 5 m_x_least_hit
def m_x_layout : En → Out := (sSeq (sRExpr (rCall g_x_need_most (aCons (eVar 0) (aCons (eVar 1) (aCons (eVar 2) aNil))))) sBad)
def g_x_layout : List D → Res := runD 7 m_x_layout
def m_x_thicket : En → Out := (sSeq (sRExpr (rCall g_x_need_most (aCons (eVar 0) (aCons (eVar 1) (aCons (eVar 2) aNil))))) sBad)
def g_x_thicket : List D → Res := runD 12 m_x_thicket
def m_x_told : En → Out := (sSeq (sRAsg (rCall g_x_layout (aCons (eVar 0) (aCons (eVar 1) (aCons (eVar 2) aNil)))) 3) sBad)
def g_x_told : List D → Res := runD 4 m_x_told
def m_x_law_more_asked : En → Out := (sSeq (sIf (tst (eOp dEq (eVar 0) (eC (.int 7)))) (sRRet (rCall g_x_layout (aCons (eVar 1) (aCons (eVar 2) (aCons (eC .non) aNil))))) sNil) (sSeq (sIf (tst (eOp dEq (eVar 0) (eC (.int 8)))) (sRRet (rCall g_x_thicket (aCons (eVar 1) (aCons (eVar 2) (aCons (eC (.int 0)) aNil))))) sNil) (sSeq (sIf (tst (eOp dEq (eVar 0) (eC (.int 9)))) (sRRet (rCall g_x_told (aCons (eVar 1) (aCons (eVar 2) (aCons (eC (.bl true)) aNil))))) sNil) (sSeq (sIf (tst (eOp dEq (eVar 0) (eC (.int 10)))) (sRRet (rCall g_x_least (aCons (eVar 1) (aCons (eVar 2) aNil)))) sNil) (sSeq (sIf (tst (eOp dEq (eVar 0) (eC (.int 11)))) (sRRet (rCall g_x_colourings (aCons (eVar 1) (aCons (eVar 2) (aCons (eC .non) (aCons (eNeg (eC (.int 1))) aNil)))))) sNil) (sRRet (rCall g_need_web (aCons (eVar 1) (aCons (eVar 2) aNil)))))))))
def g_x_law_more_asked : List D → Res := runD 3 m_x_law_more_asked
def m_x_law_asked : En → Out := (sSeq (sIf (tst (eOp dEq (eVar 0) (eC (.int 0)))) (sRRet (rCall g_x_beside (aCons (eVar 1) (aCons (eVar 2) aNil)))) sNil) (sSeq (sIf (tst (eOp dEq (eVar 0) (eC (.int 1)))) (sRRet (rCall g_x_pieces (aCons (eVar 1) (aCons (eVar 2) (aCons (eLst aNil) aNil))))) sNil) (sSeq (sIf (tst (eOp dEq (eVar 0) (eC (.int 2)))) (sRRet (rCall g_x_is_layout (aCons (eVar 1) (aCons (eVar 2) (aCons (eC .non) aNil))))) sNil) (sSeq (sIf (tst (eOp dEq (eVar 0) (eC (.int 3)))) (sRRet (rCall g_x_wide (aCons (eVar 1) (aCons (eVar 2) (aCons (eC .non) aNil))))) sNil) (sSeq (sIf (tst (eOp dEq (eVar 0) (eC (.int 4)))) (sRRet (rCall g_x_touch (aCons (eVar 1) (aCons (eVar 2) (aCons (eLst aNil) (aCons (eLst aNil) aNil)))))) sNil) (sSeq (sIf (tst (eOp dEq (eVar 0) (eC (.int 5)))) (sRRet (rCall g_x_is_thicket (aCons (eVar 1) (aCons (eVar 2) (aCons (eC .non) aNil))))) sNil) (sSeq (sIf (tst (eOp dEq (eVar 0) (eC (.int 6)))) (sRRet (rCall g_x_least_hit (aCons (eVar 1) (aCons (eVar 2) (aCons (eC .non) aNil))))) sNil) (sRRet (rCall g_x_law_more_asked (aCons (eVar 0) (aCons (eVar 1) (aCons (eVar 2) aNil))))))))))))
def g_x_law_asked : List D → Res := runD 3 m_x_law_asked
def m_law_refused : En → Out := (sSeq (sTry 3 4 (rCall g_x_law_asked (aCons (eVar 0) (aCons (eVar 1) (aCons (eVar 2) aNil)))) uWeb) (sRet (eC (.str ""))))
def g_law_refused : List D → Res := runD 4 m_law_refused
def m_law_k01 : En → Out := (sSeq (sSet 1 (eOp dAdd (eC (.int 1)) (eOp dMod (eCall g_law_cell_at (aCons (eVar 0) (aCons (eC (.int 0)) aNil))) (eC (.int 10))))) (sSeq (sSet 2 (eOp dMod (eCall g_law_cell_at (aCons (eVar 0) (aCons (eC (.int 1)) aNil))) (eC (.int 13)))) (sSeq (sSet 3 (eOp dMod (eOp dFdiv (eCall g_law_cell_at (aCons (eVar 0) (aCons (eC (.int 1)) aNil))) (eC (.int 13))) (eC (.int 6)))) (sSeq (sSet 4 (eCall g_law_cell_at (aCons (eVar 0) (aCons (eC (.int 2)) aNil)))) (sSeq (sIf (tst (eOp dEq (eVar 3) (eC (.int 0)))) (sSeq (sSet 5 (eOp dIx (eLst (aCons (eC (.int 0)) (aCons (eC (.int 11)) (aCons (eOp dSub (eNeg (eC (.int 1))) (eOp dMod (eOp dFdiv (eVar 4) (eC (.int 8))) (eOp dPow (eC (.int 10)) (eC (.int 9))))) (aCons (eOp dAdd (eC (.int 11)) (eOp dMod (eOp dFdiv (eVar 4) (eC (.int 8))) (eOp dPow (eC (.int 10)) (eC (.int 9))))) (aCons (eC (.bl true)) (aCons (eC (.str "3")) (aCons (eC .non) (aCons (eLst (aCons (eC (.int 3)) aNil)) aNil))))))))) (eOp dMod (eVar 4) (eC (.int 8))))) (sRet (eOp dEq (eCall g_law_refused (aCons (eVar 2) (aCons (eVar 5) (aCons (eLst aNil) aNil)))) (eC (.str "web value"))))) sNil) (sSeq (sSet 6 (eCall g_law_ties (aCons (eL (fSl (eVar 0) (oE (eC (.int 4))) (oE (eC (.int 24))))) (aCons (eVar 1) aNil)))) (sSeq (sIf (tst (eOp dEq (eVar 3) (eC (.int 1)))) (sRet (eOp dEq (eCall g_law_refused (aCons (eVar 2) (aCons (eVar 1) (aCons (eOp dIx (eLst (aCons (eC .non) (aCons (eCB dTuple (aCons (eVar 6) aNil)) (aCons (eC (.str "01")) (aCons (eC (.int 5)) (aCons (eC .emp) aNil)))))) (eOp dMod (eVar 4) (eC (.int 5)))) aNil)))) (eC (.str "web value")))) sNil) (sSeq (sIf (tst (eOp dLt (eVar 3) (eC (.int 5)))) (sSeq (sSet 7 (eOp dMod (eOp dFdiv (eVar 4) (eC (.int 40))) (eOp dAdd (eCB dLen (aCons (eVar 6) aNil)) (eC (.int 1))))) (sSeq (sSet 8 (eOp dAdd (eOp dAdd (eL (fSl (eVar 6) oNo (oE (eVar 7)))) (eLst (aCons (eCall g_law_odd (aCons (eCall g_law_cell_at (aCons (eVar 0) (aCons (eC (.int 3)) aNil))) (aCons (eVar 1) (aCons (eL (fSl (eVar 6) oNo (oE (eVar 7)))) aNil)))) aNil))) (eL (fSl (eVar 6) (oE (eVar 7)) oNo)))) (sSeq (sSet 9 (eL (fCB dList (aCons (eVar 8) aNil)))) (sRet (eAnd (eOp dEq (eCall g_law_refused (aCons (eVar 2) (aCons (eVar 1) (aCons (eVar 9) aNil)))) (eC (.str "web value"))) (eOp dEq (eVar 9) (eVar 8))))))) sNil) (sSeq (sSet 9 (eL (fCB dList (aCons (eVar 6) aNil)))) (sRet (eAnd (eOp dIs (eCall g_need_web (aCons (eVar 1) (aCons (eVar 9) aNil))) (eC .non)) (eOp dEq (eVar 9) (eVar 6)))))))))))))
def g_law_k01 : List D → Res := runD 10 m_law_k01
def m_near_of : En → Out := (sSeq (sRows 2 (eVar 0)) (sSeq (sFor (iL (eL (fCB dSorted (aCons (eVar 1) aNil)))) (bN 4) (sSeq (sRowApp 2 (eOp dIx (eVar 4) (eC (.int 0))) (eOp dIx (eVar 4) (eC (.int 1)))) (sRowApp 2 (eOp dIx (eVar 4) (eC (.int 1))) (eOp dIx (eVar 4) (eC (.int 0)))))) (sFrz [2] (sRetOw (owComp [5] (iL (eVar 2)) (bN 5) bYes (fCB dSorted (aCons (eVar 5) aNil)))))))
def g_near_of : List D → Res := runD 6 m_near_of
def gO_near_of : List D → Option Sl := runO 6 m_near_of
def m_parts_among : En → Out := (sSeq (sNewO 2) (sSeq (sNewK 3) (sSeq (sFor (iL (eL (fCB dSorted (aCons (eVar 1) aNil)))) (bN 4) (sIf (tst (eDnin 3 (eVar 4))) (sSeq (sDput 3 (eVar 4) (eC (.bl true))) (sSeq (sOwn 5 (fLst (aCons (eVar 4) aNil))) (sSeq (sSet 6 (eC (.int 0))) (sSeq (sWhile (fun _ => 1000000) (tst (eOp dLt (eVar 6) (eBor [5] (eCB dLen (aCons (eVar 5) aNil))))) (sSeq (sFor (iL (eOp dIx (eVar 0) (eOix 5 (eVar 6)))) (bN 7) (sIf (bAnd (tst (eOp dIn (eVar 7) (eVar 1))) (tst (eDnin 3 (eVar 7)))) (sSeq (sDput 3 (eVar 7) (eC (.bl true))) (sAppend 5 (eVar 7))) sNil)) (sSet 6 (eOp dAdd (eVar 6) (eC (.int 1)))))) (sFrz [5] (sOApp 2 (fCB dSorted (aCons (eVar 5) aNil)))))))) sNil)) (sRetO 2))))
def g_parts_among : List D → Res := runD 8 m_parts_among
def gO_parts_among : List D → Option Sl := runO 8 m_parts_among
def m_law_whole : En → Out := (sRet (eAnd (eIsi "int" (eVar 0)) (eNot (eIsi "bool" (eVar 0)))))
def g_law_whole : List D → Res := runD 1 m_law_whole
def m_law_among : En → Out := (sSeq (sNewK 2) (sSeq (sFor (iL (eVar 1)) (bN 3) (sDput 2 (eVar 3) (eVar 3))) (sSeq (sFor (iL (eVar 0)) (b2 4 5) (sIf (bAnd (tst (eDin 2 (eVar 4))) (tst (eDin 2 (eVar 5)))) (sSeq (sSet 6 (eCB dMin2 (aCons (eDix 2 (eVar 4)) (aCons (eDix 2 (eVar 5)) aNil)))) (sSeq (sSet 7 (eCB dMax2 (aCons (eDix 2 (eVar 4)) (aCons (eDix 2 (eVar 5)) aNil)))) (sFor (iL (eVar 1)) (bN 3) (sIf (tst (eOp dEq (eDix 2 (eVar 3)) (eVar 7))) (sDput 2 (eVar 3) (eVar 6)) sNil)))) sNil)) (sSeq (sSet 8 (eL (fComp [9] (iL (eL (fCB dSorted (aCons (eVar 1) aNil)))) (bN 9) bYes (eL (fComp [3] (iL (eL (fCB dSorted (aCons (eVar 1) aNil)))) (bN 3) (tst (eOp dEq (eDix 2 (eVar 3)) (eVar 9))) (eVar 3)))))) (sRet (eL (fComp [10] (iL (eVar 8)) (bN 10) (tst (eOp dNe (eVar 10) (eLst aNil))) (eVar 10))))))))
def g_law_among : List D → Res := runD 11 m_law_among
def m_law_rows : En → Out := (sSeq (sIf (bOr (bNot (tst (eIsi "list" (eVar 0)))) (tst (eOp dNe (eVar 0) (eVar 1)))) (sRet (eC (.bl false))) sNil) (sSeq (sFor (iL (eVar 0)) (bN 2) (sIf (bOr (bNot (tst (eIsi "list" (eVar 2)))) (bNot (tst (eCB dAll (aCons (eL (fComp [3] (iL (eVar 2)) (bN 3) bYes (eCall g_law_whole (aCons (eVar 3) aNil)))) aNil))))) (sRet (eC (.bl false))) sNil)) (sRet (eC (.bl true)))))
def g_law_rows : List D → Res := runD 4 m_law_rows
def m_beside : En → Out := (sSeq (sDrop (eCall g_need_web (aCons (eVar 0) (aCons (eVar 1) aNil)))) (sRetOw (owCall gO_near_of (aCons (eVar 0) (aCons (eVar 1) aNil)))))
def g_beside : List D → Res := runD 2 m_beside
def gO_beside : List D → Option Sl := runO 2 m_beside
def m_pieces : En → Out := (sSeq (sDrop (eCall g_need_web (aCons (eVar 0) (aCons (eVar 1) aNil)))) (sRetOw (owCall gO_parts_among (aCons (eCall g_near_of (aCons (eVar 0) (aCons (eVar 1) aNil))) (aCons (eL (fComp [3] (iR rg1 (aCons (eVar 0) aNil)) (bN 3) (tst (eOp dNotIn (eVar 3) (eVar 2))) (eVar 3))) aNil)))))
def g_pieces : List D → Res := runD 4 m_pieces
def gO_pieces : List D → Option Sl := runO 4 m_pieces
def m_law_k02 : En → Out := (sSeq (sSet 1 (eOp dAdd (eC (.int 1)) (eOp dMod (eCall g_law_cell_at (aCons (eVar 0) (aCons (eC (.int 0)) aNil))) (eC (.int 10))))) (sSeq (sSet 2 (eCall g_law_ties (aCons (eL (fSl (eVar 0) (oE (eC (.int 4))) (oE (eC (.int 24))))) (aCons (eVar 1) aNil)))) (sSeq (sOwn 3 (fLst aNil)) (sSeq (sFor (iR rg1 (aCons (eOp dMod (eCall g_law_cell_at (aCons (eVar 0) (aCons (eC (.int 3)) aNil))) (eC (.int 6))) aNil)) (bN 4) (sAppend 3 (eOp dSub (eOp dMod (eOp dFdiv (eCall g_law_cell_at (aCons (eVar 0) (aCons (eOp dAdd (eC (.int 1)) (eOp dMod (eVar 4) (eC (.int 3)))) aNil))) (eOp dIx (eLst (aCons (eC (.int 1)) (aCons (eC (.int 7)) (aCons (eC (.int 49)) (aCons (eC (.int 343)) (aCons (eC (.int 2401)) aNil)))))) (eVar 4))) (eOp dAdd (eVar 1) (eC (.int 3)))) (eC (.int 1))))) (sSeq (sOwn 5 (fLst aNil)) (sSeq (sFor (iR rg1 (aCons (eVar 1) aNil)) (bN 6) (sAppend 5 (eL (fCB dSorted (aCons (eL (fComp [7] (iL (eVar 2)) (bN 7) (tst (eOp dIn (eVar 6) (eVar 7))) (eOp dSub (eOp dAdd (eOp dIx (eVar 7) (eC (.int 0))) (eOp dIx (eVar 7) (eC (.int 1)))) (eVar 6)))) aNil))))) (sSeq (sSet 8 (eCall g_law_among (aCons (eVar 2) (aCons (eL (fComp [6] (iR rg1 (aCons (eVar 1) aNil)) (bN 6) (bBor [3] (tst (eOp dNotIn (eVar 6) (eVar 3)))) (eVar 6))) aNil)))) (sSeq (sFrz [3] (sSet 9 (eLst (aCons (eL (fCB dList (aCons (eVar 2) aNil))) (aCons (eL (fCB dList (aCons (eVar 3) aNil))) aNil))))) (sSeq (sAsgOw 10 (owLst 2 (owCons 2 (owCall gO_beside (aCons (eVar 1) (aCons (eOp dIx (eVar 9) (eC (.int 0))) aNil))) (owCons 2 (owCall gO_pieces (aCons (eVar 1) (aCons (eOp dIx (eVar 9) (eC (.int 0))) (aCons (eOp dIx (eVar 9) (eC (.int 1))) aNil)))) owNil)))) (sSeq (sFrz [3] (sIf (bOr (bNot (tst (eBor [10, 5] (eCall g_law_rows (aCons (eOp dIx (eVar 10) (eC (.int 0))) (aCons (eVar 5) aNil)))))) (bOr (bNot (tst (eBor [10] (eCall g_law_rows (aCons (eOp dIx (eVar 10) (eC (.int 1))) (aCons (eVar 8) aNil)))))) (tst (eOp dNe (eVar 9) (eLst (aCons (eVar 2) (aCons (eVar 3) aNil))))))) (sRet (eC (.bl false))) sNil)) (sSeq (sSet 11 (eCall g_pieces (aCons (eVar 1) (aCons (eOp dIx (eVar 9) (eC (.int 0))) (aCons (eLst aNil) aNil))))) (sSeq (sIf (bNot (tst (eCall g_law_rows (aCons (eVar 11) (aCons (eCall g_law_among (aCons (eVar 2) (aCons (eL (fRg (eVar 1))) aNil))) aNil))))) (sRet (eC (.bl false))) sNil) (sSeq (sOwApp 10 [0, 0] (oEv (eVar 1))) (sSeq (sOwApp 10 [1] (oFv (fLst (aCons (eVar 1) aNil)))) (sSeq (sIf (bOr (bBor [5] (tst (eOp dNe (eCall g_beside (aCons (eVar 1) (aCons (eOp dIx (eVar 9) (eC (.int 0))) aNil))) (eVar 5)))) (tst (eOp dNe (eCall g_pieces (aCons (eVar 1) (aCons (eOp dIx (eVar 9) (eC (.int 0))) (aCons (eOp dIx (eVar 9) (eC (.int 1))) aNil)))) (eVar 8)))) (sRet (eC (.bl false))) sNil) (sRet (eAnd (eBor [10] (eOp dEq (eOp dIx (eVar 10) (eC (.int 1))) (eOp dAdd (eVar 8) (eLst (aCons (eLst (aCons (eVar 1) aNil)) aNil))))) (eOp dEq (eVar 11) (eCall g_law_among (aCons (eVar 2) (aCons (eL (fRg (eVar 1))) aNil)))))))))))))))))))))
def g_law_k02 : List D → Res := runD 12 m_law_k02
def m_meet : En → Out := (sSeq (sFor (iL (eVar 1)) (bN 3) (sSeq (sIf (tst (eOp dIn (eVar 3) (eVar 2))) (sRet (eC (.bl true))) sNil) (sFor (iL (eOp dIx (eVar 0) (eVar 3))) (bN 4) (sIf (tst (eOp dIn (eVar 4) (eVar 2))) (sRet (eC (.bl true))) sNil)))) (sRet (eC (.bl false))))
def g_meet : List D → Res := runD 5 m_meet
def m_choices : En → Out := (sSeq (sSet 2 (eLst (aCons (eLst aNil) aNil))) (sSeq (sFor (iR rg1 (aCons (eVar 1) aNil)) (bN 3) (sSeq (sOwn 4 (fLst aNil)) (sSeq (sFor (iL (eVar 2)) (bN 5) (sSeq (sSet 6 (eC (.int 0))) (sSeq (sIf (tst (eOp dNe (eVar 5) (eLst aNil))) (sSet 6 (eOp dAdd (eOp dIx (eVar 5) (eNeg (eC (.int 1)))) (eC (.int 1)))) sNil) (sExtend 4 (eL (fComp [7] (iR rg2 (aCons (eVar 6) (aCons (eVar 0) aNil))) (bN 7) bYes (eOp dAdd (eVar 5) (eLst (aCons (eVar 7) aNil))))))))) (sFrz [4] (sSet 2 (eVar 4)))))) (sRet (eVar 2))))
def g_choices : List D → Res := runD 8 m_choices
def m_hit : En → Out := (sSeq (sFor (iL (eVar 1)) (bN 2) (sIf (tst (eOp dEq (eL (fComp [3] (iL (eVar 2)) (bN 3) (tst (eOp dIn (eVar 3) (eVar 0))) (eVar 3))) (eLst aNil))) (sRet (eC (.bl false))) sNil)) (sRet (eC (.bl true))))
def g_hit : List D → Res := runD 4 m_hit
def m_law_touch : En → Out := (sSeq (sFor (iL (eVar 1)) (bN 3) (sSeq (sSet 4 (eL (fComp [5] (iL (eVar 2)) (bN 5) (tst (eOp dIn (eTup (aCons (eCB dMin2 (aCons (eVar 3) (aCons (eVar 5) aNil))) (aCons (eCB dMax2 (aCons (eVar 3) (aCons (eVar 5) aNil))) aNil))) (eVar 0))) (eVar 5)))) (sIf (bOr (tst (eOp dIn (eVar 3) (eVar 2))) (tst (eOp dNe (eVar 4) (eLst aNil)))) (sRet (eC (.bl true))) sNil))) (sRet (eC (.bl false))))
def g_law_touch : List D → Res := runD 6 m_law_touch
def m_law_hit : En → Out := (sRet (eCB dAll (aCons (eL (fComp [3] (iL (eVar 1)) (bN 3) bYes (eCB dAny (aCons (eL (fComp [2] (iL (eVar 0)) (bN 2) bYes (eOp dIn (eVar 2) (eVar 3)))) aNil)))) aNil)))
def g_law_hit : List D → Res := runD 4 m_law_hit
def m_law_choices : En → Out := (sSeq (sSet 1 (eLst (aCons (eLst aNil) aNil))) (sSeq (sFor (iR rg1 (aCons (eVar 0) aNil)) (bN 2) (sSet 1 (eOp dAdd (eVar 1) (eL (fComp [3] (iL (eVar 1)) (bN 3) bYes (eOp dAdd (eVar 3) (eLst (aCons (eVar 2) aNil)))))))) (sRet (eVar 1))))
def g_law_choices : List D → Res := runD 4 m_law_choices
def m_law_grown : En → Out := (sSeq (sOwn 3 (fLst (aCons (eOp dMod (eVar 0) (eVar 1)) aNil))) (sSeq (sSet 4 (eOp dFdiv (eVar 0) (eVar 1))) (sSeq (sFor (iR rg1 (aCons (eOp dMod (eVar 4) (eC (.int 4))) aNil)) (bN 5) (sSeq (sSet 4 (eOp dFdiv (eVar 4) (eC (.int 4)))) (sSeq (sOwn 6 (fLst aNil)) (sSeq (sFor (iL (eVar 2)) (b2 7 8) (sIf (tst (eOp dNe (eBor [3] (eOp dIn (eVar 7) (eVar 3))) (eBor [3] (eOp dIn (eVar 8) (eVar 3))))) (sAppend 6 (eOp dIx (eLst (aCons (eVar 8) (aCons (eVar 7) aNil))) (eCB dInt (aCons (eBor [3] (eOp dIn (eVar 8) (eVar 3))) aNil)))) sNil)) (sIf (bBor [6] (tst (eOp dNe (eVar 6) (eLst aNil)))) (sFrz [6] (sAppend 3 (eOp dIx (eL (fCB dSorted (aCons (eVar 6) aNil))) (eOp dMod (eVar 4) (eCB dLen (aCons (eVar 6) aNil)))))) sNil))))) (sFrz [3] (sRet (eL (fCB dSorted (aCons (eVar 3) aNil))))))))
def g_law_grown : List D → Res := runD 9 m_law_grown
def m_law_spoilt : En → Out := (sSeq (sSet 3 (eOp dMod (eVar 1) (eCB dLen (aCons (eVar 0) aNil)))) (sSeq (sSet 4 (eOp dIx (eVar 0) (eVar 3))) (sSeq (sSet 5 (eOp dMod (eOp dFdiv (eVar 1) (eC (.int 8))) (eVar 2))) (sSeq (sSet 6 (eLst (aCons (eL (fSortedSet (eOp dAdd (eVar 4) (eLst (aCons (eVar 5) aNil))))) (aCons (eL (fComp [7] (iL (eVar 4)) (bN 7) (tst (eOp dNe (eVar 7) (eVar 5))) (eVar 7))) (aCons (eOp dAdd (eVar 4) (eLst (aCons (eOp dIx (eVar 4) (eNeg (eC (.int 1)))) aNil))) (aCons (eL (fRev (eVar 4))) (aCons (eLst aNil) aNil))))))) (sSeq (sSet 6 (eOp dAdd (eVar 6) (eLst (aCons (eOp dAdd (eLst (aCons (eC (.bl true)) aNil)) (eL (fSl (eVar 4) (oE (eC (.int 1))) oNo))) (aCons (eCB dTuple (aCons (eVar 4) aNil)) (aCons (eC .non) (aCons (eOp dAdd (eVar 4) (eLst (aCons (eVar 2) aNil))) (aCons (eLst (aCons (eVar 5) aNil)) (aCons (eLst (aCons (eC (.int 0)) (aCons (eLst (aCons (eC (.int 1)) aNil)) aNil))) (aCons (eLst (aCons (eC .emp) aNil)) aNil)))))))))) (sSeq (sIf (tst (eOp dEq (eOp dMod (eOp dFdiv (eVar 1) (eC (.int 64))) (eC (.int 13))) (eC (.int 12)))) (sRet (eOp dIx (eLst (aCons (eLst aNil) (aCons (eCB dTuple (aCons (eVar 0) aNil)) (aCons (eC .non) (aCons (eC .emp) aNil))))) (eOp dMod (eVar 1) (eC (.int 4))))) sNil) (sRet (eOp dAdd (eOp dAdd (eL (fSl (eVar 0) oNo (oE (eVar 3)))) (eLst (aCons (eOp dIx (eVar 6) (eOp dMod (eOp dFdiv (eVar 1) (eC (.int 64))) (eC (.int 13)))) aNil))) (eL (fSl (eVar 0) (oE (eOp dAdd (eVar 3) (eC (.int 1)))) oNo))))))))))
def g_law_spoilt : List D → Res := runD 8 m_law_spoilt
def m_is_bag : En → Out := (sSeq (sIf (bNot (tst (eIsi "list" (eVar 0)))) (sRet (eC (.bl false))) sNil) (sSeq (sFor (iL (eVar 0)) (bN 2) (sIf (bOr (bNot (tst (eCall g_is_whole (aCons (eVar 2) aNil)))) (bNot (tst (eChain dLe dLt (eC (.int 0)) (eVar 2) (eVar 1))))) (sRet (eC (.bl false))) sNil)) (sRet (eCB dAll (aCons (eL (fComp [3] (iR rg1 (aCons (eOp dSub (eCB dLen (aCons (eVar 0) aNil)) (eC (.int 1))) aNil)) (bN 3) bYes (eOp dLt (eOp dIx (eVar 0) (eVar 3)) (eOp dIx (eVar 0) (eOp dAdd (eVar 3) (eC (.int 1))))))) aNil)))))
def g_is_bag : List D → Res := runD 4 m_is_bag
def m_law_is_thicket : En → Out := (sSeq (sIf (bOr (bNot (tst (eIsi "list" (eVar 2)))) (tst (eOp dEq (eVar 2) (eLst aNil)))) (sRet (eC (.bl false))) sNil) (sSeq (sFor (iL (eVar 2)) (bN 3) (sSeq (sIf (bNot (tst (eIsi "list" (eVar 3)))) (sRet (eC (.bl false))) sNil) (sSeq (sIf (bNot (tst (eCB dAll (aCons (eL (fComp [4] (iL (eVar 3)) (bN 4) bYes (eAnd (eCall g_law_whole (aCons (eVar 4) aNil)) (eChain dLe dLt (eC (.int 0)) (eVar 4) (eVar 0))))) aNil)))) (sRet (eC (.bl false))) sNil) (sIf (bOr (tst (eOp dNe (eVar 3) (eL (fSortedSet (eVar 3))))) (tst (eOp dNe (eCB dLen (aCons (eCall g_law_among (aCons (eVar 1) (aCons (eVar 3) aNil))) aNil)) (eC (.int 1))))) (sRet (eC (.bl false))) sNil)))) (sSeq (sFor (iL (eVar 2)) (bN 5) (sIf (bNot (tst (eCB dAll (aCons (eL (fComp [6] (iL (eVar 2)) (bN 6) bYes (eCall g_law_touch (aCons (eVar 1) (aCons (eVar 5) (aCons (eVar 6) aNil)))))) aNil)))) (sRet (eC (.bl false))) sNil)) (sRet (eC (.bl true))))))
def g_law_is_thicket : List D → Res := runD 7 m_law_is_thicket
def m_law_least_right : En → Out := (sSeq (sIf (tst (eOp dLt (eVar 0) (eC (.int 8)))) (sRet (eOp dEq (eVar 2) (eCB dMinL (aCons (eL (fComp [3] (iL (eCall g_law_choices (aCons (eVar 0) aNil))) (bN 3) (tst (eCall g_law_hit (aCons (eVar 3) (aCons (eVar 1) aNil)))) (eCB dLen (aCons (eVar 3) aNil)))) aNil)))) sNil) (sSeq (sSet 4 (eC (.int 3))) (sSeq (sFor (iR rg1 (aCons (eVar 0) aNil)) (bN 5) (sFor (iR rg2 (aCons (eVar 5) (aCons (eVar 0) aNil))) (bN 6) (sIf (tst (eCall g_law_hit (aCons (eLst (aCons (eVar 5) (aCons (eVar 6) aNil))) (aCons (eVar 1) aNil)))) (sSet 4 (eCB dMin2 (aCons (eVar 4) (aCons (eOp dAdd (eC (.int 1)) (eCB dInt (aCons (eOp dLt (eVar 5) (eVar 6)) aNil))) aNil)))) sNil))) (sRet (eOr (eOp dEq (eVar 2) (eVar 4)) (eAnd (eOp dEq (eVar 4) (eC (.int 3))) (eChain dLe dLe (eC (.int 3)) (eVar 2) (eVar 0))))))))
def g_law_least_right : List D → Res := runD 7 m_law_least_right
def m_law_pieces : En → Out := (sSeq (sOwn 3 (fLst aNil)) (sSeq (sFor (iR rg1 (aCons (eOp dAdd (eC (.int 1)) (eOp dMod (eCall g_law_cell_at (aCons (eVar 0) (aCons (eC (.int 1)) aNil))) (eC (.int 6)))) aNil)) (bN 4) (sSeq (sSet 5 (eCall g_law_grown (aCons (eCall g_law_cell_at (aCons (eVar 0) (aCons (eOp dAdd (eC (.int 22)) (eVar 4)) aNil))) (aCons (eVar 1) (aCons (eVar 2) aNil))))) (sBorIf [3] 6 (eOp dIx (eLst (aCons (eLst aNil) (aCons (eVar 3) (aCons (eL (fSl (eVar 3) (oE (eNeg (eC (.int 1)))) oNo)) aNil)))) (eOp dMod (eOp dFdiv (eCall g_law_cell_at (aCons (eVar 0) (aCons (eC (.int 1)) aNil))) (eC (.int 6))) (eC (.int 3)))) (tst (eCB dAll (aCons (eL (fComp [7] (iL (eVar 6)) (bN 7) bYes (eCall g_law_touch (aCons (eVar 2) (aCons (eVar 5) (aCons (eVar 7) aNil)))))) aNil))) (sAppend 3 (eVar 5)) sNil))) (sFrz [3] (sRet (eVar 3)))))
def g_law_pieces : List D → Res := runD 8 m_law_pieces
def m_touch : En → Out := (sSeq (sDrop (eCall g_need_web (aCons (eVar 0) (aCons (eVar 1) aNil)))) (sRet (eCall g_meet (aCons (eCall g_near_of (aCons (eVar 0) (aCons (eVar 1) aNil))) (aCons (eVar 2) (aCons (eVar 3) aNil))))))
def g_touch : List D → Res := runD 4 m_touch
def m_is_thicket : En → Out := (sSeq (sDrop (eCall g_need_web (aCons (eVar 0) (aCons (eVar 1) aNil)))) (sSeq (sIf (bOr (bNot (tst (eIsi "list" (eVar 2)))) (tst (eOp dEq (eVar 2) (eLst aNil)))) (sRet (eC (.bl false))) sNil) (sSeq (sSet 3 (eCall g_near_of (aCons (eVar 0) (aCons (eVar 1) aNil)))) (sSeq (sFor (iL (eVar 2)) (bN 4) (sIf (bOr (bNot (tst (eCall g_is_bag (aCons (eVar 4) (aCons (eVar 0) aNil))))) (tst (eOp dNe (eCB dLen (aCons (eCall g_parts_among (aCons (eVar 3) (aCons (eVar 4) aNil))) aNil)) (eC (.int 1))))) (sRet (eC (.bl false))) sNil)) (sSeq (sFor (iR rg1 (aCons (eCB dLen (aCons (eVar 2) aNil)) aNil)) (bN 5) (sFor (iL (eL (fSl (eVar 2) (oE (eOp dAdd (eVar 5) (eC (.int 1)))) oNo))) (bN 6) (sIf (bNot (tst (eCall g_meet (aCons (eVar 3) (aCons (eOp dIx (eVar 2) (eVar 5)) (aCons (eVar 6) aNil)))))) (sRet (eC (.bl false))) sNil))) (sRet (eC (.bl true))))))))
def g_is_thicket : List D → Res := runD 7 m_is_thicket
def m_least_hit : En → Out := (sSeq (sIf (bNot (tst (eCall g_is_thicket (aCons (eVar 0) (aCons (eVar 1) (aCons (eVar 2) aNil)))))) (sExc "BadThicket") sNil) (sSeq (sFor (iR rg2 (aCons (eC (.int 1)) (aCons (eVar 0) aNil))) (bN 3) (sFor (iL (eCall g_choices (aCons (eVar 0) (aCons (eVar 3) aNil)))) (bN 4) (sIf (tst (eCall g_hit (aCons (eVar 4) (aCons (eVar 2) aNil)))) (sRet (eVar 3)) sNil))) (sRet (eVar 0))))
def g_least_hit : List D → Res := runD 5 m_least_hit
def m_law_refused_k04 : En → Out := (sSeq (sTry 3 5 (rCall g_least_hit (aCons (eVar 0) (aCons (eVar 1) (aCons (eVar 2) aNil)))) uThk) (sRet (eC (.bl false))))
def g_law_refused_k04 : List D → Res := runD 5 m_law_refused_k04
def m_law_k04 : En → Out := (sSeq (sSet 1 (eOp dAdd (eC (.int 1)) (eOp dMod (eCall g_law_cell_at (aCons (eVar 0) (aCons (eC (.int 0)) aNil))) (eC (.int 10))))) (sSeq (sSet 2 (eOp dIx (eLst (aCons (eC (.int 1)) (aCons (eC (.int 4)) (aCons (eC (.int 2)) aNil)))) (eOp dMod (eOp dFdiv (eCall g_law_cell_at (aCons (eVar 0) (aCons (eC (.int 2)) aNil))) (eC (.int 832))) (eC (.int 3))))) (sSeq (sSet 3 (eCall g_law_ties (aCons (eL (fSl (eVar 0) (oE (eC (.int 4))) (oE (eOp dAdd (eC (.int 4)) (eOp dFdiv (eOp dMod (eOp dFdiv (eCall g_law_cell_at (aCons (eVar 0) (aCons (eC (.int 0)) aNil))) (eC (.int 10))) (eC (.int 19))) (eVar 2)))))) (aCons (eVar 1) aNil)))) (sSeq (sSet 4 (eCall g_law_pieces (aCons (eVar 0) (aCons (eVar 1) (aCons (eVar 3) aNil))))) (sSeq (sFor (iL (eVar 4)) (bN 5) (sFor (iL (eL (fSl (eVar 4) oNo (oE (eC (.int 2)))))) (bN 6) (sSeq (sSet 7 (eLst (aCons (eCall g_touch (aCons (eVar 1) (aCons (eL (fCB dList (aCons (eVar 3) aNil))) (aCons (eL (fCB dList (aCons (eVar 5) aNil))) (aCons (eL (fCB dList (aCons (eVar 6) aNil))) aNil))))) (aCons (eCall g_touch (aCons (eVar 1) (aCons (eL (fCB dList (aCons (eVar 3) aNil))) (aCons (eL (fCB dList (aCons (eVar 6) aNil))) (aCons (eL (fCB dList (aCons (eVar 5) aNil))) aNil))))) aNil)))) (sIf (bOr (tst (eOp dNe (eVar 7) (eOp dMul (eLst (aCons (eCall g_law_touch (aCons (eVar 3) (aCons (eVar 5) (aCons (eVar 6) aNil)))) aNil)) (eC (.int 2))))) (bNot (tst (eIsi "bool" (eOp dIx (eVar 7) (eC (.int 0))))))) (sRet (eC (.bl false))) sNil)))) (sSeq (sSet 8 (eL (fComp [9] (iR rg1 (aCons (eOp dMod (eCall g_law_cell_at (aCons (eVar 0) (aCons (eC (.int 3)) aNil))) (eC (.int 7))) aNil)) (bN 9) bYes (eOp dMod (eOp dFdiv (eCall g_law_cell_at (aCons (eVar 0) (aCons (eOp dAdd (eC (.int 22)) (eVar 9)) aNil))) (eC (.int 64))) (eVar 1))))) (sSeq (sSet 8 (eLst (aCons (eL (fSl (eVar 8) oNo (oE (eC (.int 3))))) (aCons (eL (fSl (eVar 8) (oE (eC (.int 3))) oNo)) aNil)))) (sSeq (sSet 7 (eLst (aCons (eCall g_touch (aCons (eVar 1) (aCons (eL (fCB dList (aCons (eVar 3) aNil))) (aCons (eOp dIx (eVar 8) (eC (.int 0))) (aCons (eOp dIx (eVar 8) (eC (.int 1))) aNil))))) (aCons (eCall g_touch (aCons (eVar 1) (aCons (eL (fCB dList (aCons (eVar 3) aNil))) (aCons (eOp dIx (eVar 8) (eC (.int 1))) (aCons (eOp dIx (eVar 8) (eC (.int 0))) aNil))))) aNil)))) (sSeq (sIf (tst (eOp dNe (eVar 7) (eOp dMul (eLst (aCons (eCall g_law_touch (aCons (eVar 3) (aCons (eOp dIx (eVar 8) (eC (.int 0))) (aCons (eOp dIx (eVar 8) (eC (.int 1))) aNil)))) aNil)) (eC (.int 2))))) (sRet (eC (.bl false))) sNil) (sSeq (sSet 10 (eVar 4)) (sSeq (sIf (tst (eOp dEq (eOp dMod (eCall g_law_cell_at (aCons (eVar 0) (aCons (eC (.int 2)) aNil))) (eC (.int 2))) (eC (.int 1)))) (sSet 10 (eCall g_law_spoilt (aCons (eVar 4) (aCons (eOp dFdiv (eCall g_law_cell_at (aCons (eVar 0) (aCons (eC (.int 2)) aNil))) (eC (.int 2))) (aCons (eVar 1) aNil))))) sNil) (sSeq (sSet 11 (eStr (eVar 10))) (sSeq (sSet 12 (eCall g_law_is_thicket (aCons (eVar 1) (aCons (eVar 3) (aCons (eVar 10) aNil))))) (sSeq (sSet 7 (eCall g_is_thicket (aCons (eVar 1) (aCons (eL (fCB dList (aCons (eVar 3) aNil))) (aCons (eVar 10) aNil))))) (sSeq (sIf (bOr (bNot (tst (eIsi "bool" (eVar 7)))) (bOr (tst (eOp dNe (eVar 7) (eVar 12))) (tst (eOp dNe (eStr (eVar 10)) (eVar 11))))) (sRet (eC (.bl false))) sNil) (sSeq (sIf (bNot (tst (eVar 12))) (sRet (eCall g_law_refused_k04 (aCons (eVar 1) (aCons (eL (fCB dList (aCons (eVar 3) aNil))) (aCons (eVar 10) aNil))))) sNil) (sSeq (sSet 13 (eCall g_least_hit (aCons (eVar 1) (aCons (eL (fCB dList (aCons (eVar 3) aNil))) (aCons (eVar 10) aNil))))) (sRet (eAnd (eCall g_law_whole (aCons (eVar 13) aNil)) (eAnd (eCall g_law_least_right (aCons (eVar 1) (aCons (eVar 10) (aCons (eVar 13) aNil)))) (eOp dEq (eStr (eVar 10)) (eVar 11))))))))))))))))))))))
def g_law_k04 : List D → Res := runD 14 m_law_k04
def m_around : En → Out := (sSeq (sNewK 2) (sSeq (sFor (iL (eVar 1)) (bN 3) (sFor (iL (eOp dIx (eVar 0) (eVar 3))) (bN 4) (sIf (tst (eOp dNotIn (eVar 4) (eVar 1))) (sDput 2 (eVar 4) (eC (.bl true))) sNil))) (sRet (eL (fSortedK 2)))))
def g_around : List D → Res := runD 5 m_around
def m_without : En → Out := (sRet (eL (fComp [2] (iL (eVar 0)) (bN 2) (tst (eOp dNe (eVar 2) (eVar 1))) (eVar 2))))
def g_without : List D → Res := runD 3 m_without
def m_law_laid_by : En → Out := (sSeq (sRows 3 (eVar 0)) (sSeq (sFor (iL (eVar 1)) (b2 5 6) (sSeq (sRowApp 3 (eVar 5) (eVar 6)) (sRowApp 3 (eVar 6) (eVar 5)))) (sSeq (sOwn 7 (fLst aNil)) (sSeq (sFor (iR rg1 (aCons (eVar 0) aNil)) (bN 8) (sSeq (sSet 4 (eOp dIx (eVar 2) (eVar 8))) (sSeq (sHalf 3 (sSet 9 (eL (fSortedSet (eL (fComp [6] (iL (eOix 3 (eVar 4))) (bN 6) (tst (eOp dIn (eVar 6) (eL (fSl (eVar 2) (oE (eOp dAdd (eVar 8) (eC (.int 1)))) oNo)))) (eVar 6))))))) (sSeq (sAppend 7 (eL (fCB dSorted (aCons (eOp dAdd (eVar 9) (eLst (aCons (eVar 4) aNil))) aNil)))) (sFor (iL (eVar 9)) (bN 5) (sHalf 3 (sHalf 3 (sLset 3 (eVar 5) (eOp dAdd (eOix 3 (eVar 5)) (eL (fComp [6] (iL (eVar 9)) (bN 6) (tst (eOp dNe (eVar 6) (eVar 5))) (eVar 6)))))))))))) (sSeq (sOwn 10 (fLst aNil)) (sSeq (sFor (iR rg1 (aCons (eOp dSub (eVar 0) (eC (.int 1))) aNil)) (bN 8) (sSeq (sSet 11 (eL (fComp [6] (iL (eOix 7 (eVar 8))) (bN 6) (tst (eOp dGt (eIndex (eVar 2) (eVar 6)) (eVar 8))) (eIndex (eVar 2) (eVar 6))))) (sAppend 10 (eTup (aCons (eVar 8) (aCons (eCB dMinL (aCons (eOp dAdd (eVar 11) (eLst (aCons (eOp dSub (eVar 0) (eC (.int 1))) aNil))) aNil)) aNil)))))) (sFrz [7, 10] (sRet (eTup (aCons (eVar 7) (aCons (eVar 10) aNil)))))))))))
def g_law_laid_by : List D → Res := runD 12 m_law_laid_by
def m_law_each_order : En → Out := (sSeq (sOwn 2 (fRg (eVar 1))) (sSeq (sOwn 3 (fLst aNil)) (sSeq (sWhile (fun _ => 1000000) (bBor [2] (tst (eOp dNe (eVar 2) (eLst aNil)))) (sSeq (sAppPop 3 2 (eOp dMod (eVar 0) (eBor [2] (eCB dLen (aCons (eVar 2) aNil))))) (sSet 0 (eOp dFdiv (eVar 0) (eOp dAdd (eBor [2] (eCB dLen (aCons (eVar 2) aNil))) (eC (.int 1))))))) (sFrz [3] (sRet (eVar 3))))))
def g_law_each_order : List D → Res := runD 4 m_law_each_order
def m_laid : En → Out := (sSeq (sOwn 3 (fLst aNil)) (sSeq (sOwn 4 (fLst aNil)) (sSeq (sOwn 5 (fComp [6] (iL (eVar 1)) (bN 6) bYes (eTup (aCons (eVar 6) (aCons (eC (.int 0)) aNil))))) (sSeq (sWhile (fun _ => 1000000) (bBor [5] (tst (eOp dNe (eVar 5) (eLst aNil)))) (sSeq (sPop 5 (b2 6 7)) (sSeq (sSet 8 (eOt (eDix 2 (eCB dTuple (aCons (eVar 6) aNil))))) (sSeq (sSet 9 (eBor [3] (eCB dLen (aCons (eVar 3) aNil)))) (sSeq (sAppend 3 (eL (fCB dSorted (aCons (eOp dAdd (eCall g_around (aCons (eVar 0) (aCons (eVar 6) aNil))) (eLst (aCons (eVar 8) aNil))) aNil)))) (sSeq (sIf (tst (eOp dGt (eVar 9) (eC (.int 0)))) (sAppend 4 (eTup (aCons (eVar 7) (aCons (eVar 9) aNil)))) sNil) (sExtend 5 (eL (fComp [10] (iL (eCall g_parts_among (aCons (eVar 0) (aCons (eCall g_without (aCons (eVar 6) (aCons (eVar 8) aNil))) aNil)))) (bN 10) bYes (eTup (aCons (eVar 10) (aCons (eVar 9) aNil)))))))))))) (sFrz [3, 4] (sRet (eTup (aCons (eVar 3) (aCons (eVar 4) aNil)))))))))
def gF_laid : List D → Kv → Option (D × Kv) := runF 11 m_laid
def m_need_most : En → Out := (sSeq (sDrop (eCall g_need_web (aCons (eVar 0) (aCons (eVar 1) aNil)))) (sIf (bOr (bNot (tst (eCall g_is_whole (aCons (eVar 2) aNil)))) (bNot (tst (eChain dLe dLe (eC (.int 1)) (eVar 2) (eVar 0))))) (sExc "BadCount") sNil))
def g_need_most : List D → Res := runD 3 m_need_most
def m_first_of (G : List D → Kv → Option (D × Kv)) : En → Out := (sSeq (sSet 4 (eCB dTuple (aCons (eVar 1) aNil))) (sSeq (sIf (bOt (tst (eDnin 3 (eVar 4)))) (sSeq (sDputA 3 (eVar 4) (eC .non)) (sIf (tst (eOp dLt (eCB dLen (aCons (eCall g_around (aCons (eVar 0) (aCons (eVar 1) aNil))) aNil)) (eVar 2))) (sFor (iL (eVar 1)) (bN 5) (sSeq (sSet 6 (eCall g_parts_among (aCons (eVar 0) (aCons (eCall g_without (aCons (eVar 1) (aCons (eVar 5) aNil))) aNil)))) (sIfM 3 (mAnd 3 (tst (eOp dIs (eOt (eDix 3 (eVar 4))) (eC .non))) (mTst dNotIn (eC .non) (mComp [7] (iL (eVar 6)) (bN 7) (mCall G 3 (aCons (eVar 0) (aCons (eVar 7) (aCons (eVar 2) aNil)))) 3))) (sDputA 3 (eVar 4) (eVar 5)) sNil))) sNil)) sNil) (sRet (eOt (eDix 3 (eVar 4))))))
def gF_first_of : Nat → List D → Kv → Option (D × Kv)
  | 0 => fun _ _ => none
  | d + 1 => runF 8 (m_first_of (gF_first_of d))
def m_layout : En → Out := (sSeq (sDrop (eCall g_need_most (aCons (eVar 0) (aCons (eVar 1) (aCons (eVar 2) aNil))))) (sSeq (sSet 3 (eCall g_near_of (aCons (eVar 0) (aCons (eVar 1) aNil)))) (sSeq (sNewT 4) (sSeq (sSet 5 (eCall g_parts_among (aCons (eVar 3) (aCons (eL (fRg (eVar 0))) aNil)))) (sSeq (sIfM 4 (mTst dIn (eC .non) (mComp [6] (iL (eVar 5)) (bN 6) (mCall (gF_first_of 11) 4 (aCons (eVar 3) (aCons (eVar 6) (aCons (eVar 2) aNil)))) 4)) (sRet (eC .non)) sNil) (sRetM 4 (mCall gF_laid 4 (aCons (eVar 3) (aCons (eVar 5) aNil)))))))))
def g_layout : List D → Res := runD 7 m_layout
def m_least : En → Out := (sSeq (sDrop (eCall g_need_web (aCons (eVar 0) (aCons (eVar 1) aNil)))) (sSeq (sFor (iR rg2 (aCons (eC (.int 1)) (aCons (eVar 0) aNil))) (bN 2) (sIf (tst (eOp dIsNot (eCall g_layout (aCons (eVar 0) (aCons (eVar 1) (aCons (eVar 2) aNil)))) (eC .non))) (sRet (eVar 2)) sNil)) (sRet (eVar 0))))
def g_least : List D → Res := runD 3 m_least
def m_law_k07 : En → Out := (sSeq (sSet 1 (eOp dAdd (eC (.int 1)) (eOp dMod (eCall g_law_cell_at (aCons (eVar 0) (aCons (eC (.int 0)) aNil))) (eC (.int 5))))) (sSeq (sSet 2 (eCall g_law_ties (aCons (eL (fSl (eVar 0) (oE (eC (.int 2))) (oE (eOp dAdd (eC (.int 2)) (eOp dMod (eCall g_law_cell_at (aCons (eVar 0) (aCons (eC (.int 1)) aNil))) (eC (.int 11))))))) (aCons (eVar 1) aNil)))) (sSeq (sSet 3 (eVar 1)) (sSeq (sSet 4 (eC (.int 1))) (sSeq (sFor (iR rg1 (aCons (eVar 1) aNil)) (bN 5) (sSet 4 (eOp dMul (eVar 4) (eOp dAdd (eVar 5) (eC (.int 1)))))) (sSeq (sFor (iR rg1 (aCons (eVar 4) aNil)) (bN 6) (sSeq (sSet 7 (eCall g_law_laid_by (aCons (eVar 1) (aCons (eVar 2) (aCons (eCall g_law_each_order (aCons (eVar 6) (aCons (eVar 1) aNil))) aNil))))) (sSet 3 (eCB dMin2 (aCons (eVar 3) (aCons (eCB dMaxL (aCons (eL (fComp [8] (iL (eOp dIx (eVar 7) (eC (.int 0)))) (bN 8) bYes (eCB dLen (aCons (eVar 8) aNil)))) aNil)) aNil)))))) (sSeq (sSet 9 (eCall g_least (aCons (eVar 1) (aCons (eL (fCB dList (aCons (eVar 2) aNil))) aNil)))) (sSeq (sIf (bOr (bNot (tst (eCall g_law_whole (aCons (eVar 9) aNil)))) (tst (eOp dNe (eVar 9) (eVar 3)))) (sRet (eC (.bl false))) sNil) (sRet (eCB dAll (aCons (eL (fComp [10] (iR rg2 (aCons (eC (.int 1)) (aCons (eOp dAdd (eVar 1) (eC (.int 1))) aNil))) (bN 10) bYes (eOp dEq (eOp dIsNot (eCall g_layout (aCons (eVar 1) (aCons (eL (fCB dList (aCons (eVar 2) aNil))) (aCons (eVar 10) aNil)))) (eC .non)) (eOp dGe (eVar 10) (eVar 3))))) aNil)))))))))))
def g_law_k07 : List D → Res := runD 11 m_law_k07
def m_law_order_by : En → Out := (sSeq (sOwn 2 (fRg (eVar 1))) (sSeq (sOwn 3 (fLst aNil)) (sSeq (sWhile (fun _ => 1000000) (bBor [2] (tst (eOp dNe (eVar 2) (eLst aNil)))) (sSeq (sAppPop 3 2 (eOp dMod (eVar 0) (eBor [2] (eCB dLen (aCons (eVar 2) aNil))))) (sSet 0 (eOp dFdiv (eVar 0) (eOp dAdd (eBor [2] (eCB dLen (aCons (eVar 2) aNil))) (eC (.int 1))))))) (sFrz [3] (sRet (eVar 3))))))
def g_law_order_by : List D → Res := runD 4 m_law_order_by
def m_law_ring : En → Out := (sRet (eL (fComp [1] (iR rg1 (aCons (eVar 0) aNil)) (bN 1) bYes (eTup (aCons (eVar 1) (aCons (eOp dMod (eOp dAdd (eVar 1) (eC (.int 1))) (eVar 0)) aNil))))))
def g_law_ring : List D → Res := runD 2 m_law_ring
def m_law_pairs : En → Out := (sRet (eL (fComp [1] (iR rg1 (aCons (eOp dMul (eVar 0) (eVar 0)) aNil)) (bN 1) bYes (eTup (aCons (eOp dFdiv (eVar 1) (eVar 0)) (aCons (eOp dMod (eVar 1) (eVar 0)) aNil))))))
def g_law_pairs : List D → Res := runD 2 m_law_pairs
def m_law_count : En → Out := (sSeq (sSet 2 (eC (.int 3))) (sSeq (sFor (iR rg1 (aCons (eOp dSub (eVar 1) (eC (.int 1))) aNil)) (bN 3) (sSet 2 (eOp dMul (eVar 2) (eC (.int 2))))) (sSeq (sIf (tst (eOp dLt (eVar 0) (eC (.int 2)))) (sRet (eVar 2)) sNil) (sRet (eOp dAdd (eOp dMul (eOp dFdiv (eVar 2) (eC (.int 3))) (eC (.int 2))) (eOp dMul (eC (.int 2)) (eOp dSub (eC (.int 1)) (eOp dMul (eOp dMod (eVar 1) (eC (.int 2))) (eC (.int 2))))))))))
def g_law_count : List D → Res := runD 4 m_law_count
def m_fits : En → Out := (sRet (eCB dAll (aCons (eL (fComp [3] (iL (eVar 1)) (bN 3) bYes (eCall g_meet (aCons (eVar 0) (aCons (eVar 3) (aCons (eVar 2) aNil)))))) aNil)))
def g_fits : List D → Res := runD 4 m_fits
def m_law_is_tree : En → Out := (sSeq (sIf (bOr (bNot (tst (eIsi "list" (eVar 0)))) (tst (eOp dNe (eCB dLen (aCons (eVar 0) aNil)) (eOp dSub (eVar 1) (eC (.int 1)))))) (sRet (eC (.bl false))) sNil) (sSeq (sSet 2 (eL (fRg (eVar 1)))) (sSeq (sFor (iL (eVar 0)) (bN 3) (sSeq (sIf (bOr (bNot (tst (eIsi "tuple" (eVar 3)))) (bOr (tst (eOp dNe (eCB dLen (aCons (eVar 3) aNil)) (eC (.int 2)))) (bOr (bNot (tst (eCall g_law_whole (aCons (eOp dIx (eVar 3) (eC (.int 0))) aNil)))) (bNot (tst (eCall g_law_whole (aCons (eOp dIx (eVar 3) (eC (.int 1))) aNil))))))) (sRet (eC (.bl false))) sNil) (sSeq (sIf (bOr (bNot (tst (eChain3 dLe dLt dLt (eC (.int 0)) (eOp dIx (eVar 3) (eC (.int 0))) (eOp dIx (eVar 3) (eC (.int 1))) (eVar 1)))) (tst (eOp dEq (eOp dIx (eVar 2) (eOp dIx (eVar 3) (eC (.int 0)))) (eOp dIx (eVar 2) (eOp dIx (eVar 3) (eC (.int 1))))))) (sRet (eC (.bl false))) sNil) (sSeq (sSet 4 (eOp dIx (eVar 2) (eOp dIx (eVar 3) (eC (.int 0))))) (sSet 2 (eL (fComp [5] (iL (eVar 2)) (bN 5) bYes (eIf (tst (eOp dEq (eVar 5) (eOp dIx (eVar 2) (eOp dIx (eVar 3) (eC (.int 1)))))) (eVar 4) (eVar 5))))))))) (sRet (eC (.bl true))))))
def g_law_is_tree : List D → Res := runD 6 m_law_is_tree
def m_law_is_bag : En → Out := (sSeq (sIf (bOr (bNot (tst (eIsi "list" (eVar 0)))) (bNot (tst (eCB dAll (aCons (eL (fComp [2] (iL (eVar 0)) (bN 2) bYes (eAnd (eCall g_law_whole (aCons (eVar 2) aNil)) (eChain dLe dLt (eC (.int 0)) (eVar 2) (eVar 1))))) aNil))))) (sRet (eC (.bl false))) sNil) (sRet (eOp dEq (eVar 0) (eL (fSortedSet (eVar 0))))))
def g_law_is_bag : List D → Res := runD 3 m_law_is_bag
def m_law_unhit : En → Out := (sSeq (sSet 3 (eLst (aCons (eLst aNil) aNil))) (sSeq (sFor (iR rg1 (aCons (eVar 1) aNil)) (bN 4) (sSeq (sSet 5 (eLst aNil)) (sSeq (sFor (iL (eVar 3)) (bN 6) (sSet 5 (eOp dAdd (eVar 5) (eL (fComp [7] (iR rg2 (aCons (eOp dAdd (eCB dMaxL (aCons (eOp dAdd (eVar 6) (eLst (aCons (eNeg (eC (.int 1))) aNil))) aNil)) (eC (.int 1))) (aCons (eVar 0) aNil))) (bN 7) bYes (eOp dAdd (eVar 6) (eLst (aCons (eVar 7) aNil)))))))) (sSet 3 (eVar 5))))) (sRet (eNot (eCB dAny (aCons (eL (fComp [6] (iL (eVar 3)) (bN 6) bYes (eCall g_law_hit (aCons (eVar 6) (aCons (eVar 2) aNil))))) aNil))))))
def g_law_unhit : List D → Res := runD 8 m_law_unhit
def m_law_is_layout : En → Out := (sSeq (sIf (bOr (bNot (tst (eIsi "tuple" (eVar 2)))) (bOr (tst (eOp dNe (eCB dLen (aCons (eVar 2) aNil)) (eC (.int 2)))) (bOr (bNot (tst (eIsi "list" (eOp dIx (eVar 2) (eC (.int 0)))))) (tst (eOp dEq (eOp dIx (eVar 2) (eC (.int 0))) (eLst aNil)))))) (sRet (eC (.bl false))) sNil) (sSeq (sIf (bOr (bNot (tst (eCB dAll (aCons (eL (fComp [3] (iL (eOp dIx (eVar 2) (eC (.int 0)))) (bN 3) bYes (eCall g_law_is_bag (aCons (eVar 3) (aCons (eVar 0) aNil))))) aNil)))) (bNot (tst (eCall g_law_is_tree (aCons (eOp dIx (eVar 2) (eC (.int 1))) (aCons (eCB dLen (aCons (eOp dIx (eVar 2) (eC (.int 0))) aNil)) aNil)))))) (sRet (eC (.bl false))) sNil) (sSeq (sFor (iL (eVar 1)) (bN 4) (sIf (bNot (tst (eCB dAny (aCons (eL (fComp [3] (iL (eOp dIx (eVar 2) (eC (.int 0)))) (bN 3) bYes (eAnd (eOp dIn (eOp dIx (eVar 4) (eC (.int 0))) (eVar 3)) (eOp dIn (eOp dIx (eVar 4) (eC (.int 1))) (eVar 3))))) aNil)))) (sRet (eC (.bl false))) sNil)) (sSeq (sFor (iR rg1 (aCons (eVar 0) aNil)) (bN 5) (sSeq (sSet 6 (eL (fComp [7] (iR rg1 (aCons (eCB dLen (aCons (eOp dIx (eVar 2) (eC (.int 0))) aNil)) aNil)) (bN 7) (tst (eOp dIn (eVar 5) (eOp dIx (eOp dIx (eVar 2) (eC (.int 0))) (eVar 7)))) (eVar 7)))) (sSeq (sSet 8 (eL (fComp [9] (iL (eOp dIx (eVar 2) (eC (.int 1)))) (bN 9) (bAnd (tst (eOp dIn (eOp dIx (eVar 9) (eC (.int 0))) (eVar 6))) (tst (eOp dIn (eOp dIx (eVar 9) (eC (.int 1))) (eVar 6)))) (eVar 9)))) (sIf (tst (eOp dNe (eCB dLen (aCons (eCall g_law_among (aCons (eVar 8) (aCons (eVar 6) aNil))) aNil)) (eC (.int 1)))) (sRet (eC (.bl false))) sNil)))) (sRet (eC (.bl true)))))))
def g_law_is_layout : List D → Res := runD 10 m_law_is_layout
def m_law_grown_k08 : En → Out := (sSeq (sSet 3 (eL (fComp [4, 5] (iL (eCall g_law_pairs (aCons (eVar 2) aNil))) (b2 4 5) (tst (eOp dLt (eVar 4) (eVar 5))) (eTup (aCons (eVar 4) (aCons (eVar 5) aNil)))))) (sSeq (sOwn 6 (fLst (aCons (eL (fRg (eVar 2))) aNil))) (sSeq (sFor (iR rg2 (aCons (eVar 2) (aCons (eVar 1) aNil))) (bN 7) (sSeq (sSet 8 (eCall g_law_cell_at (aCons (eVar 0) (aCons (eOp dAdd (eC (.int 3)) (eVar 7)) aNil)))) (sSeq (sSet 9 (eOix 6 (eOp dMod (eVar 8) (eBor [6] (eCB dLen (aCons (eVar 6) aNil)))))) (sSeq (sSet 10 (eL (fComp [11] (iL (eVar 9)) (bN 11) (tst (eOp dNe (eVar 11) (eOp dIx (eVar 9) (eOp dMod (eOp dFdiv (eVar 8) (eC (.int 16))) (eCB dLen (aCons (eVar 9) aNil)))))) (eVar 11)))) (sSeq (sSet 3 (eOp dAdd (eVar 3) (eL (fComp [11] (iL (eVar 10)) (bN 11) bYes (eTup (aCons (eVar 11) (aCons (eVar 7) aNil))))))) (sAppend 6 (eOp dAdd (eVar 10) (eLst (aCons (eVar 7) aNil))))))))) (sRet (eVar 3)))))
def g_law_grown_k08 : List D → Res := runD 12 m_law_grown_k08
def m_law_known : En → Out := (sSeq (sSet 2 (eOp dMod (eCall g_law_cell_at (aCons (eVar 0) (aCons (eC (.int 1)) aNil))) (eC (.int 8)))) (sSeq (sIf (tst (eOp dEq (eVar 2) (eC (.int 0)))) (sRet (eTup (aCons (eL (fComp [3] (iR rg1 (aCons (eOp dSub (eVar 1) (eC (.int 1))) aNil)) (bN 3) bYes (eTup (aCons (eVar 3) (aCons (eOp dAdd (eVar 3) (eC (.int 1))) aNil))))) (aCons (eC (.int 2)) aNil)))) sNil) (sSeq (sIf (tst (eOp dEq (eVar 2) (eC (.int 1)))) (sRet (eTup (aCons (eL (fComp [3] (iR rg2 (aCons (eC (.int 1)) (aCons (eVar 1) aNil))) (bN 3) bYes (eTup (aCons (eC (.int 0)) (aCons (eVar 3) aNil))))) (aCons (eC (.int 2)) aNil)))) sNil) (sSeq (sIf (tst (eOp dEq (eVar 2) (eC (.int 2)))) (sRet (eTup (aCons (eCall g_law_ring (aCons (eVar 1) aNil)) (aCons (eC (.int 3)) aNil)))) sNil) (sSeq (sIf (tst (eOp dEq (eVar 2) (eC (.int 3)))) (sRet (eTup (aCons (eL (fComp [3, 4] (iL (eCall g_law_pairs (aCons (eCB dMin2 (aCons (eVar 1) (aCons (eC (.int 5)) aNil))) aNil))) (b2 3 4) (tst (eOp dLt (eVar 3) (eVar 4))) (eTup (aCons (eVar 3) (aCons (eVar 4) aNil))))) (aCons (eCB dMin2 (aCons (eVar 1) (aCons (eC (.int 5)) aNil))) aNil)))) sNil) (sSeq (sIf (bAnd (tst (eOp dEq (eVar 2) (eC (.int 4)))) (tst (eOp dGt (eVar 1) (eC (.int 3))))) (sRet (eTup (aCons (eOp dAdd (eCall g_law_ring (aCons (eOp dSub (eVar 1) (eC (.int 1))) aNil)) (eL (fComp [3] (iR rg1 (aCons (eOp dSub (eVar 1) (eC (.int 1))) aNil)) (bN 3) bYes (eTup (aCons (eVar 3) (aCons (eOp dSub (eVar 1) (eC (.int 1))) aNil)))))) (aCons (eC (.int 4)) aNil)))) sNil) (sSeq (sIf (bAnd (tst (eOp dEq (eVar 2) (eC (.int 5)))) (tst (eOp dGt (eVar 1) (eC (.int 3))))) (sSeq (sSet 5 (eOp dFdiv (eVar 1) (eC (.int 2)))) (sSeq (sSet 6 (eL (fComp [3] (iR rg1 (aCons (eVar 5) aNil)) (bN 3) bYes (eTup (aCons (eVar 3) (aCons (eOp dAdd (eVar 5) (eVar 3)) aNil)))))) (sSeq (sSet 7 (eOp dAdd (eL (fComp [3] (iR rg1 (aCons (eOp dSub (eVar 5) (eC (.int 1))) aNil)) (bN 3) bYes (eTup (aCons (eVar 3) (aCons (eOp dAdd (eVar 3) (eC (.int 1))) aNil))))) (eL (fComp [3] (iR rg1 (aCons (eOp dSub (eVar 5) (eC (.int 1))) aNil)) (bN 3) bYes (eTup (aCons (eOp dAdd (eVar 5) (eVar 3)) (aCons (eOp dAdd (eOp dAdd (eVar 5) (eVar 3)) (eC (.int 1))) aNil))))))) (sRet (eTup (aCons (eOp dAdd (eVar 6) (eVar 7)) (aCons (eC (.int 3)) aNil))))))) sNil) (sSeq (sIf (bAnd (tst (eOp dEq (eVar 2) (eC (.int 7)))) (tst (eOp dEq (eVar 1) (eC (.int 8))))) (sSeq (sSet 8 (eOp dAdd (eL (fComp [3] (iR rg3 (aCons (eC (.int 0)) (aCons (eC (.int 8)) (aCons (eC (.int 2)) aNil)))) (bN 3) bYes (eTup (aCons (eVar 3) (aCons (eOp dAdd (eVar 3) (eC (.int 1))) aNil))))) (eL (fComp [3] (iR rg1 (aCons (eC (.int 4)) aNil)) (bN 3) bYes (eTup (aCons (eVar 3) (aCons (eOp dAdd (eVar 3) (eC (.int 4))) aNil))))))) (sRet (eTup (aCons (eOp dAdd (eVar 8) (eL (fComp [3] (iT (eTup (aCons (eC (.int 0)) (aCons (eC (.int 1)) (aCons (eC (.int 4)) (aCons (eC (.int 5)) aNil)))))) (bN 3) bYes (eTup (aCons (eVar 3) (aCons (eOp dAdd (eVar 3) (eC (.int 2))) aNil)))))) (aCons (eC (.int 4)) aNil))))) sNil) (sSeq (sIf (tst (eOp dEq (eVar 2) (eC (.int 7)))) (sRet (eTup (aCons (eOp dAdd (eL (fComp [3] (iR rg1 (aCons (eC (.int 9)) aNil)) (bN 3) bYes (eTup (aCons (eOp dFdiv (eVar 3) (eC (.int 3))) (aCons (eOp dAdd (eC (.int 3)) (eOp dMod (eVar 3) (eC (.int 3)))) aNil))))) (eLst (aCons (eTup (aCons (eC (.int 4)) (aCons (eC (.int 5)) aNil))) aNil))) (aCons (eC (.int 4)) aNil)))) sNil) (sSeq (sSet 9 (eOp dAdd (eC (.int 2)) (eOp dMod (eOp dFdiv (eCall g_law_cell_at (aCons (eVar 0) (aCons (eC (.int 1)) aNil))) (eC (.int 8))) (eCB dMin2 (aCons (eC (.int 3)) (aCons (eOp dSub (eVar 1) (eC (.int 1))) aNil)))))) (sRet (eTup (aCons (eCall g_law_grown_k08 (aCons (eVar 0) (aCons (eVar 1) (aCons (eVar 9) aNil)))) (aCons (eVar 9) aNil))))))))))))))
def g_law_known : List D → Res := runD 10 m_law_known
def m_thicket : En → Out := (sSeq (sDrop (eCall g_need_most (aCons (eVar 0) (aCons (eVar 1) (aCons (eVar 2) aNil))))) (sSeq (sSet 3 (eCall g_near_of (aCons (eVar 0) (aCons (eVar 1) aNil)))) (sSeq (sOwn 4 (fLst aNil)) (sSeq (sFor (iL (eCall g_choices (aCons (eVar 0) (aCons (eVar 2) aNil)))) (bN 5) (sAppend 4 (eCall g_parts_among (aCons (eVar 3) (aCons (eL (fComp [6] (iR rg1 (aCons (eVar 0) aNil)) (bN 6) (tst (eOp dNotIn (eVar 6) (eVar 5))) (eVar 6))) aNil))))) (sSeq (sOwn 7 (fLst aNil)) (sSeq (sOwn 8 (fLst (aCons (eC (.int 0)) aNil))) (sSeq (sWhile (fun _ => 1000000) (bBor [8] (tst (eOp dNe (eVar 8) (eLst aNil)))) (sSeq (sSet 9 (eOix 4 (eBor [7] (eCB dLen (aCons (eVar 7) aNil))))) (sSeq (sPop 8 (bN 10)) (sSeq (sWhile (fun _ => 1000000) (bAnd (tst (eOp dLt (eVar 10) (eCB dLen (aCons (eVar 9) aNil)))) (bNot (tst (eBor [7] (eCall g_fits (aCons (eVar 3) (aCons (eVar 7) (aCons (eOp dIx (eVar 9) (eVar 10)) aNil)))))))) (sSet 10 (eOp dAdd (eVar 10) (eC (.int 1))))) (sIf (tst (eOp dLt (eVar 10) (eCB dLen (aCons (eVar 9) aNil)))) (sSeq (sAppend 7 (eOp dIx (eVar 9) (eVar 10))) (sSeq (sAppend 8 (eOp dAdd (eVar 10) (eC (.int 1)))) (sSeq (sIf (tst (eOp dEq (eBor [7] (eCB dLen (aCons (eVar 7) aNil))) (eBor [4] (eCB dLen (aCons (eVar 4) aNil))))) (sFrz [7] (sRet (eL (fComp [11] (iL (eL (fSortedSet (eL (fComp [11] (iL (eVar 7)) (bN 11) bYes (eCB dTuple (aCons (eVar 11) aNil))))))) (bN 11) bYes (eL (fCB dList (aCons (eVar 11) aNil))))))) sNil) (sAppend 8 (eC (.int 0)))))) (sIf (bBor [7] (tst (eOp dNe (eVar 7) (eLst aNil)))) (sPopD 7) sNil)))))) (sRet (eC .non)))))))))
def g_thicket : List D → Res := runD 12 m_thicket
def m_told : En → Out := (sSeq (sSet 3 (eCall g_layout (aCons (eVar 0) (aCons (eVar 1) (aCons (eVar 2) aNil))))) (sSeq (sIf (tst (eOp dIs (eVar 3) (eC .non))) (sRet (eTup (aCons (eC (.str "thicket")) (aCons (eCall g_thicket (aCons (eVar 0) (aCons (eVar 1) (aCons (eVar 2) aNil)))) aNil)))) sNil) (sRet (eTup (aCons (eC (.str "bags")) (aCons (eVar 3) aNil))))))
def g_told : List D → Res := runD 4 m_told
def m_law_tried : En → Out := (sSeq (sSet 3 (eLst (aCons (eLst aNil) aNil))) (sSeq (sFor (iR rg1 (aCons (eVar 0) aNil)) (bN 4) (sSeq (sSet 5 (eLst aNil)) (sSeq (sFor (iL (eVar 3)) (bN 6) (sSet 5 (eOp dAdd (eVar 5) (eL (fComp [7] (iR rg1 (aCons (eVar 2) aNil)) (bN 7) bYes (eOp dAdd (eVar 6) (eLst (aCons (eVar 7) aNil)))))))) (sSet 3 (eVar 5))))) (sRet (eCB dLen (aCons (eL (fComp [6] (iL (eVar 3)) (bN 6) (tst (eCB dAll (aCons (eL (fComp [8, 9] (iL (eVar 1)) (b2 8 9) bYes (eOp dNe (eOp dIx (eVar 6) (eVar 8)) (eOp dIx (eVar 6) (eVar 9))))) aNil))) (eVar 6))) aNil)))))
def g_law_tried : List D → Res := runD 10 m_law_tried
def m_law_in_one : En → Out := (sSeq (sOwn 4 (fLst aNil)) (sSeq (sFor (iL (eVar 1)) (bN 5) (sSeq (sSet 6 (eL (fComp [7] (iL (eVar 5)) (bN 7) bYes (eIf (tst (eOp dEq (eVar 7) (eVar 3))) (eVar 2) (eVar 7))))) (sSeq (sSet 6 (eL (fCB dSorted (aCons (eL (fComp [7] (iL (eVar 6)) (bN 7) bYes (eIf (bAnd (tst (eOp dEq (eVar 7) (eOp dSub (eVar 0) (eC (.int 1))))) (tst (eOp dNe (eVar 3) (eOp dSub (eVar 0) (eC (.int 1)))))) (eVar 3) (eVar 7)))) aNil)))) (sIf (bBor [4] (tst (eOp dNotIn (eTup (aCons (eOp dIx (eVar 6) (eC (.int 0))) (aCons (eOp dIx (eVar 6) (eC (.int 1))) aNil))) (eVar 4)))) (sAppend 4 (eTup (aCons (eOp dIx (eVar 6) (eC (.int 0))) (aCons (eOp dIx (eVar 6) (eC (.int 1))) aNil)))) sNil)))) (sFrz [4] (sRet (eVar 4)))))
def g_law_in_one : List D → Res := runD 8 m_law_in_one
def m_law_unhit_k06 : En → Out := (sRet (eNot (eCB dAny (aCons (eL (fComp [3] (iL (eCall g_law_choices (aCons (eVar 0) aNil))) (bN 3) bYes (eAnd (eOp dEq (eCB dLen (aCons (eVar 3) aNil)) (eVar 1)) (eCall g_law_hit (aCons (eVar 3) (aCons (eVar 2) aNil)))))) aNil))))
def g_law_unhit_k06 : List D → Res := runD 4 m_law_unhit_k06
def m_law_right : En → Out := (sSeq (sIf (bOr (bNot (tst (eIsi "tuple" (eVar 3)))) (bOr (tst (eOp dNe (eCB dLen (aCons (eVar 3) aNil)) (eC (.int 2)))) (bNot (tst (eIsi "str" (eOp dIx (eVar 3) (eC (.int 0)))))))) (sRet (eC (.bl false))) sNil) (sSeq (sIf (tst (eOp dEq (eOp dIx (eVar 3) (eC (.int 0))) (eC (.str "bags")))) (sRet (eAnd (eCall g_law_is_layout (aCons (eVar 0) (aCons (eVar 1) (aCons (eOp dIx (eVar 3) (eC (.int 1))) aNil)))) (eOp dLe (eCB dMaxL (aCons (eL (fComp [4] (iL (eOp dIx (eOp dIx (eVar 3) (eC (.int 1))) (eC (.int 0)))) (bN 4) bYes (eCB dLen (aCons (eVar 4) aNil)))) aNil)) (eVar 2)))) sNil) (sRet (eAnd (eOp dEq (eOp dIx (eVar 3) (eC (.int 0))) (eC (.str "thicket"))) (eAnd (eCall g_law_is_thicket (aCons (eVar 0) (aCons (eVar 1) (aCons (eOp dIx (eVar 3) (eC (.int 1))) aNil)))) (eCall g_law_unhit_k06 (aCons (eVar 0) (aCons (eVar 2) (aCons (eOp dIx (eVar 3) (eC (.int 1))) aNil)))))))))
def g_law_right : List D → Res := runD 5 m_law_right
def m_holds_together : En → Out := (sSeq (sSet 3 (eCB dLen (aCons (eL (fComp [4] (iL (eVar 0)) (bN 4) (tst (eOp dIn (eVar 2) (eVar 4))) (eVar 4))) aNil))) (sSeq (sSet 5 (eCB dLen (aCons (eL (fComp [6] (iL (eVar 1)) (bN 6) (bAnd (tst (eOp dIn (eVar 2) (eOp dIx (eVar 0) (eOp dIx (eVar 6) (eC (.int 0)))))) (tst (eOp dIn (eVar 2) (eOp dIx (eVar 0) (eOp dIx (eVar 6) (eC (.int 1))))))) (eVar 6))) aNil))) (sRet (eAnd (eOp dGt (eVar 3) (eC (.int 0))) (eOp dEq (eVar 5) (eOp dSub (eVar 3) (eC (.int 1))))))))
def g_holds_together : List D → Res := runD 7 m_holds_together
def m_law_hung_on : En → Out := (sSeq (sAsg (eVar 0) (b2 2 3)) (sSeq (sIf (tst (eOp dLt (eOp dMod (eVar 1) (eC (.int 4))) (eC (.int 2)))) (sRet (eVar 0)) sNil) (sSeq (sSet 4 (eOp dMod (eOp dFdiv (eVar 1) (eC (.int 4))) (eCB dLen (aCons (eVar 2) aNil)))) (sSeq (sSet 5 (eOp dIx (eLst (aCons (eLst aNil) (aCons (eL (fCB dList (aCons (eOp dIx (eVar 2) (eVar 4)) aNil))) aNil))) (eOp dSub (eOp dMod (eVar 1) (eC (.int 4))) (eC (.int 2))))) (sRet (eTup (aCons (eOp dAdd (eVar 2) (eLst (aCons (eVar 5) aNil))) (aCons (eOp dAdd (eVar 3) (eLst (aCons (eTup (aCons (eVar 4) (aCons (eCB dLen (aCons (eVar 2) aNil)) aNil))) aNil))) aNil))))))))
def g_law_hung_on : List D → Res := runD 6 m_law_hung_on
def m_law_bags_spoilt : En → Out := (sSeq (sSet 3 (eOp dMod (eVar 1) (eCB dLen (aCons (eVar 0) aNil)))) (sSeq (sSet 4 (eOp dIx (eVar 0) (eVar 3))) (sSeq (sSet 5 (eOp dMod (eOp dFdiv (eVar 1) (eC (.int 8))) (eOp dAdd (eVar 2) (eC (.int 1))))) (sSeq (sSet 6 (eIf (tst (eOp dNe (eVar 4) (eLst aNil))) (eL (fComp [7] (iL (eVar 4)) (bN 7) (tst (eOp dNe (eVar 7) (eOp dIx (eVar 4) (eOp dMod (eOp dFdiv (eVar 1) (eC (.int 8))) (eCB dLen (aCons (eVar 4) aNil)))))) (eVar 7))) (eLst (aCons (eC (.int 0)) aNil)))) (sSeq (sSet 8 (eLst (aCons (eVar 6) (aCons (eL (fCB dSorted (aCons (eOp dAdd (eVar 4) (eLst (aCons (eVar 5) aNil))) aNil))) (aCons (eOp dAdd (eVar 4) (eL (fSl (eVar 4) (oE (eNeg (eC (.int 1)))) oNo))) (aCons (eL (fRev (eVar 4))) (aCons (eCB dTuple (aCons (eVar 4) aNil)) (aCons (eOp dAdd (eVar 4) (eLst (aCons (eNeg (eC (.int 1))) aNil))) (aCons (eOp dAdd (eLst (aCons (eC (.bl true)) aNil)) (eL (fSl (eVar 4) (oE (eC (.int 1))) oNo))) (aCons (eC .non) aNil)))))))))) (sSeq (sSet 8 (eOp dAdd (eOp dAdd (eVar 8) (eLst (aCons (eLst (aCons (eC (.int 0)) (aCons (eLst (aCons (eC (.int 1)) aNil)) aNil))) (aCons (eLst (aCons (eC .emp) aNil)) aNil)))) (eOp dMul (eLst (aCons (eVar 6) aNil)) (eC (.int 7))))) (sRet (eOp dAdd (eOp dAdd (eL (fSl (eVar 0) oNo (oE (eVar 3)))) (eLst (aCons (eOp dIx (eVar 8) (eOp dMod (eOp dFdiv (eVar 1) (eC (.int 80))) (eC (.int 17)))) aNil))) (eL (fSl (eVar 0) (oE (eOp dAdd (eVar 3) (eC (.int 1)))) oNo))))))))))
def g_law_bags_spoilt : List D → Res := runD 9 m_law_bags_spoilt
def m_law_links_spoilt : En → Out := (sSeq (sIf (tst (eOp dEq (eVar 0) (eLst aNil))) (sRet (eOp dIx (eLst (aCons (eLst (aCons (eTup (aCons (eC (.int 0)) (aCons (eC (.int 1)) aNil))) aNil)) (aCons (eLst (aCons (eTup (aCons (eC (.int 0)) (aCons (eC (.int 0)) aNil))) aNil)) (aCons (eC .non) (aCons (eTup (aCons (eTup aNil) aNil)) aNil))))) (eOp dMod (eVar 1) (eC (.int 4))))) sNil) (sSeq (sSet 3 (eOp dMod (eVar 1) (eCB dLen (aCons (eVar 0) aNil)))) (sSeq (sSet 4 (eOp dIx (eVar 0) (eVar 3))) (sSeq (sSet 5 (eOp dMod (eOp dFdiv (eVar 1) (eC (.int 8))) (eVar 2))) (sSeq (sSet 6 (eTup (aCons (eCB dMin2 (aCons (eVar 5) (aCons (eOp dIx (eVar 4) (eC (.int 1))) aNil))) (aCons (eCB dMax2 (aCons (eVar 5) (aCons (eOp dIx (eVar 4) (eC (.int 1))) aNil))) aNil)))) (sSeq (sSet 7 (eLst (aCons (eTup (aCons (eOp dIx (eVar 4) (eC (.int 1))) (aCons (eOp dIx (eVar 4) (eC (.int 0))) aNil))) (aCons (eTup (aCons (eC (.int 0)) (aCons (eLst (aCons (eC (.int 1)) aNil)) aNil))) (aCons (eVar 6) (aCons (eL (fCB dList (aCons (eVar 4) aNil))) (aCons (eTup (aCons (eOp dIx (eVar 4) (eC (.int 0))) (aCons (eVar 2) aNil))) (aCons (eTup (aCons (eC (.bl true)) (aCons (eOp dIx (eVar 4) (eC (.int 1))) aNil))) aNil)))))))) (sSeq (sSet 8 (eOp dMod (eOp dFdiv (eVar 1) (eC (.int 80))) (eC (.int 8)))) (sSeq (sIf (tst (eOp dEq (eVar 8) (eC (.int 6)))) (sRet (eOp dAdd (eL (fSl (eVar 0) oNo (oE (eVar 3)))) (eL (fSl (eVar 0) (oE (eOp dAdd (eVar 3) (eC (.int 1)))) oNo)))) sNil) (sSeq (sIf (bAnd (tst (eOp dEq (eVar 8) (eC (.int 7)))) (tst (eOp dEq (eOp dMod (eOp dFdiv (eVar 1) (eC (.int 640))) (eC (.int 4))) (eC (.int 0))))) (sRet (eOp dAdd (eVar 0) (eLst (aCons (eOp dIx (eVar 0) (eVar 3)) aNil)))) sNil) (sSeq (sIf (tst (eOp dEq (eVar 8) (eC (.int 7)))) (sRet (eOp dAdd (eOp dAdd (eL (fSl (eVar 0) oNo (oE (eVar 3)))) (eLst (aCons (eOp dIx (eVar 0) (eOp dMod (eOp dAdd (eVar 3) (eC (.int 1))) (eCB dLen (aCons (eVar 0) aNil)))) aNil))) (eL (fSl (eVar 0) (oE (eOp dAdd (eVar 3) (eC (.int 1)))) oNo)))) sNil) (sRet (eOp dAdd (eOp dAdd (eL (fSl (eVar 0) oNo (oE (eVar 3)))) (eLst (aCons (eOp dIx (eVar 7) (eVar 8)) aNil))) (eL (fSl (eVar 0) (oE (eOp dAdd (eVar 3) (eC (.int 1)))) oNo))))))))))))))
def g_law_links_spoilt : List D → Res := runD 9 m_law_links_spoilt
def m_is_tree : En → Out := (sSeq (sIf (bOr (bNot (tst (eIsi "list" (eVar 0)))) (tst (eOp dNe (eCB dLen (aCons (eVar 0) aNil)) (eOp dSub (eVar 1) (eC (.int 1)))))) (sRet (eC (.bl false))) sNil) (sSeq (sFor (iL (eVar 0)) (bN 2) (sIf (bNot (tst (eCall g_is_tie (aCons (eVar 2) (aCons (eVar 1) aNil))))) (sRet (eC (.bl false))) sNil)) (sSeq (sOwn 3 (fLst (aCons (eC (.int 0)) aNil))) (sSeq (sSet 4 (eC (.int 0))) (sSeq (sWhile (fun _ => 1000000) (tst (eOp dLt (eVar 4) (eBor [3] (eCB dLen (aCons (eVar 3) aNil))))) (sSeq (sFor (iL (eVar 0)) (b2 5 6) (sSeq (sIf (bAnd (tst (eOp dEq (eVar 5) (eOix 3 (eVar 4)))) (bBor [3] (tst (eOp dNotIn (eVar 6) (eVar 3))))) (sAppend 3 (eVar 6)) sNil) (sIf (bAnd (tst (eOp dEq (eVar 6) (eOix 3 (eVar 4)))) (bBor [3] (tst (eOp dNotIn (eVar 5) (eVar 3))))) (sAppend 3 (eVar 5)) sNil))) (sSet 4 (eOp dAdd (eVar 4) (eC (.int 1)))))) (sRet (eOp dEq (eBor [3] (eCB dLen (aCons (eVar 3) aNil))) (eVar 1))))))))
def g_is_tree : List D → Res := runD 7 m_is_tree
def m_law_thing : En → Out := (sSeq (sSet 3 (eCall g_law_cell_at (aCons (eVar 0) (aCons (eC (.int 3)) aNil)))) (sSeq (sAsg (eVar 2) (b2 4 5)) (sSeq (sIf (tst (eOp dEq (eOp dMod (eVar 3) (eC (.int 4))) (eC (.int 1)))) (sSet 4 (eCall g_law_bags_spoilt (aCons (eVar 4) (aCons (eOp dFdiv (eVar 3) (eC (.int 4))) (aCons (eVar 1) aNil))))) sNil) (sSeq (sIf (tst (eOp dEq (eOp dMod (eVar 3) (eC (.int 4))) (eC (.int 2)))) (sSet 5 (eCall g_law_links_spoilt (aCons (eVar 5) (aCons (eOp dFdiv (eVar 3) (eC (.int 4))) (aCons (eCB dLen (aCons (eVar 4) aNil)) aNil))))) sNil) (sSeq (sIf (bAnd (tst (eOp dEq (eOp dMod (eVar 3) (eC (.int 12))) (eC (.int 7)))) (tst (eOp dGt (eCB dLen (aCons (eVar 5) aNil)) (eC (.int 1))))) (sRet (eTup (aCons (eVar 4) (aCons (eOp dAdd (eL (fSl (eVar 5) oNo (oE (eNeg (eC (.int 1)))))) (eLst (aCons (eOp dIx (eVar 5) (eOp dMod (eOp dFdiv (eVar 3) (eC (.int 12))) (eOp dSub (eCB dLen (aCons (eVar 5) aNil)) (eC (.int 1))))) aNil))) aNil)))) sNil) (sSeq (sIf (bAnd (tst (eOp dEq (eOp dMod (eVar 3) (eC (.int 4))) (eC (.int 3)))) (tst (eOp dEq (eOp dMod (eOp dFdiv (eVar 3) (eC (.int 4))) (eC (.int 3))) (eC (.int 0))))) (sRet (eOp dIx (eLst (aCons (eLst (aCons (eVar 4) (aCons (eVar 5) aNil))) (aCons (eTup (aCons (eVar 4) aNil)) (aCons (eTup (aCons (eVar 4) (aCons (eVar 5) (aCons (eLst aNil) aNil)))) (aCons (eC .non) (aCons (eTup (aCons (eLst aNil) (aCons (eLst aNil) aNil))) (aCons (eC (.str "bags")) (aCons (eTup (aCons (eLst aNil) (aCons (eLst (aCons (eTup (aCons (eC (.int 0)) (aCons (eC (.int 1)) aNil))) aNil)) aNil))) aNil)))))))) (eOp dMod (eOp dFdiv (eVar 3) (eC (.int 12))) (eC (.int 7))))) sNil) (sSeq (sIf (tst (eOp dEq (eOp dMod (eVar 3) (eC (.int 4))) (eC (.int 3)))) (sSeq (sSet 6 (eOp dMod (eOp dFdiv (eVar 3) (eC (.int 12))) (eCB dLen (aCons (eVar 4) aNil)))) (sSet 4 (eOp dAdd (eL (fSl (eVar 4) (oE (eVar 6)) oNo)) (eL (fSl (eVar 4) oNo (oE (eVar 6))))))) sNil) (sRet (eTup (aCons (eVar 4) (aCons (eVar 5) aNil)))))))))))
def g_law_thing : List D → Res := runD 7 m_law_thing
def m_is_layout : En → Out := (sSeq (sDrop (eCall g_need_web (aCons (eVar 0) (aCons (eVar 1) aNil)))) (sSeq (sIf (bOr (bNot (tst (eIsi "tuple" (eVar 2)))) (bOr (tst (eOp dNe (eCB dLen (aCons (eVar 2) aNil)) (eC (.int 2)))) (bOr (bNot (tst (eIsi "list" (eOp dIx (eVar 2) (eC (.int 0)))))) (tst (eOp dEq (eOp dIx (eVar 2) (eC (.int 0))) (eLst aNil)))))) (sRet (eC (.bl false))) sNil) (sSeq (sAsg (eVar 2) (b2 3 4)) (sSeq (sIf (bOr (bNot (tst (eCB dAll (aCons (eL (fComp [5] (iL (eVar 3)) (bN 5) bYes (eCall g_is_bag (aCons (eVar 5) (aCons (eVar 0) aNil))))) aNil)))) (bNot (tst (eCall g_is_tree (aCons (eVar 4) (aCons (eCB dLen (aCons (eVar 3) aNil)) aNil)))))) (sRet (eC (.bl false))) sNil) (sSeq (sFor (iL (eVar 1)) (b2 6 7) (sIf (tst (eOp dEq (eL (fComp [5] (iL (eVar 3)) (bN 5) (bAnd (tst (eOp dIn (eVar 6) (eVar 5))) (tst (eOp dIn (eVar 7) (eVar 5)))) (eVar 5))) (eLst aNil))) (sRet (eC (.bl false))) sNil)) (sRet (eCB dAll (aCons (eL (fComp [8] (iR rg1 (aCons (eVar 0) aNil)) (bN 8) bYes (eCall g_holds_together (aCons (eVar 3) (aCons (eVar 4) (aCons (eVar 8) aNil)))))) aNil))))))))
def g_is_layout : List D → Res := runD 9 m_is_layout
def m_wide : En → Out := (sSeq (sIf (bNot (tst (eCall g_is_layout (aCons (eVar 0) (aCons (eVar 1) (aCons (eVar 2) aNil)))))) (sExc "BadLayout") sNil) (sRet (eCB dMaxL (aCons (eL (fComp [3] (iL (eOp dIx (eVar 2) (eC (.int 0)))) (bN 3) bYes (eCB dLen (aCons (eVar 3) aNil)))) aNil))))
def g_wide : List D → Res := runD 4 m_wide
def m_law_refused_k03 : En → Out := (sSeq (sTry 3 5 (rCall g_wide (aCons (eVar 0) (aCons (eVar 1) (aCons (eVar 2) aNil)))) uLay) (sRet (eC (.bl false))))
def g_law_refused_k03 : List D → Res := runD 5 m_law_refused_k03
def m_law_k03 : En → Out := (sSeq (sSet 1 (eOp dAdd (eC (.int 1)) (eOp dMod (eCall g_law_cell_at (aCons (eVar 0) (aCons (eC (.int 0)) aNil))) (eC (.int 10))))) (sSeq (sSet 2 (eOp dIx (eLst (aCons (eC (.int 1)) (aCons (eC (.int 4)) aNil))) (eOp dMod (eOp dFdiv (eCall g_law_cell_at (aCons (eVar 0) (aCons (eC (.int 2)) aNil))) (eC (.int 64))) (eC (.int 2))))) (sSeq (sSet 3 (eCall g_law_ties (aCons (eL (fSl (eVar 0) (oE (eC (.int 4))) (oE (eOp dAdd (eC (.int 4)) (eOp dFdiv (eOp dMod (eOp dFdiv (eCall g_law_cell_at (aCons (eVar 0) (aCons (eC (.int 0)) aNil))) (eC (.int 10))) (eC (.int 15))) (eVar 2)))))) (aCons (eVar 1) aNil)))) (sSeq (sSet 4 (eCall g_law_laid_by (aCons (eVar 1) (aCons (eVar 3) (aCons (eCall g_law_order_by (aCons (eCall g_law_cell_at (aCons (eVar 0) (aCons (eC (.int 1)) aNil))) (aCons (eVar 1) aNil))) aNil))))) (sSeq (sSet 4 (eCall g_law_hung_on (aCons (eVar 4) (aCons (eCall g_law_cell_at (aCons (eVar 0) (aCons (eC (.int 2)) aNil))) aNil)))) (sSeq (sIf (tst (eOp dIsNot (eCall g_is_layout (aCons (eVar 1) (aCons (eL (fCB dList (aCons (eVar 3) aNil))) (aCons (eTup (aCons (eL (fComp [5] (iL (eOp dIx (eVar 4) (eC (.int 0)))) (bN 5) bYes (eL (fCB dList (aCons (eVar 5) aNil))))) (aCons (eL (fCB dList (aCons (eOp dIx (eVar 4) (eC (.int 1))) aNil))) aNil))) aNil)))) (eC (.bl true)))) (sRet (eC (.bl false))) sNil) (sSeq (sSet 6 (eCall g_law_thing (aCons (eVar 0) (aCons (eVar 1) (aCons (eVar 4) aNil))))) (sSeq (sSet 7 (eCall g_law_is_layout (aCons (eVar 1) (aCons (eVar 3) (aCons (eVar 6) aNil))))) (sSeq (sSet 8 (eStr (eVar 6))) (sSeq (sSet 9 (eCall g_is_layout (aCons (eVar 1) (aCons (eL (fCB dList (aCons (eVar 3) aNil))) (aCons (eVar 6) aNil))))) (sSeq (sIf (bOr (bNot (tst (eIsi "bool" (eVar 9)))) (bOr (tst (eOp dNe (eVar 9) (eVar 7))) (tst (eOp dNe (eStr (eVar 6)) (eVar 8))))) (sRet (eC (.bl false))) sNil) (sSeq (sIf (bNot (tst (eVar 7))) (sRet (eCall g_law_refused_k03 (aCons (eVar 1) (aCons (eL (fCB dList (aCons (eVar 3) aNil))) (aCons (eVar 6) aNil))))) sNil) (sSeq (sSet 10 (eCall g_wide (aCons (eVar 1) (aCons (eL (fCB dList (aCons (eVar 3) aNil))) (aCons (eVar 6) aNil))))) (sRet (eAnd (eCall g_law_whole (aCons (eVar 10) aNil)) (eAnd (eOp dEq (eVar 10) (eCB dMaxL (aCons (eL (fComp [5] (iL (eOp dIx (eVar 6) (eC (.int 0)))) (bN 5) bYes (eCB dLen (aCons (eVar 5) aNil)))) aNil))) (eOp dEq (eStr (eVar 6)) (eVar 8))))))))))))))))))
def g_law_k03 : List D → Res := runD 11 m_law_k03
def m_colour_rows : En → Out := (sSeq (sSet 2 (eLst (aCons (eTup aNil) aNil))) (sSeq (sFor (iR rg1 (aCons (eVar 0) aNil)) (bN 3) (sSeq (sOwn 4 (fLst aNil)) (sSeq (sFor (iL (eVar 2)) (bN 5) (sExtend 4 (eL (fComp [6] (iR rg1 (aCons (eVar 1) aNil)) (bN 6) bYes (eOp dAdd (eVar 5) (eTup (aCons (eVar 6) aNil))))))) (sFrz [4] (sSet 2 (eVar 4)))))) (sRet (eVar 2))))
def g_colour_rows : List D → Res := runD 7 m_colour_rows
def m_is_proper : En → Out := (sSeq (sFor (iL (eVar 2)) (b2 3 4) (sIf (bAnd (tst (eOp dIn (eVar 3) (eVar 0))) (bAnd (tst (eOp dIn (eVar 4) (eVar 0))) (tst (eOp dEq (eOp dIx (eVar 1) (eIndex (eVar 0) (eVar 3))) (eOp dIx (eVar 1) (eIndex (eVar 0) (eVar 4))))))) (sRet (eC (.bl false))) sNil)) (sRet (eC (.bl true))))
def g_is_proper : List D → Res := runD 5 m_is_proper
def m_shared_row : En → Out := (sRet (eCB dTuple (aCons (eL (fComp [3] (iL (eVar 2)) (bN 3) bYes (eOp dIx (eVar 1) (eIndex (eVar 0) (eVar 3))))) aNil)))
def g_shared_row : List D → Res := runD 4 m_shared_row
def m_from_root : En → Out := (sSeq (sOwn 2 (fLst (aCons (eTup (aCons (eC (.int 0)) (aCons (eC .non) aNil))) aNil))) (sSeq (sSet 3 (eC (.int 0))) (sSeq (sWhile (fun _ => 1000000) (tst (eOp dLt (eVar 3) (eBor [2] (eCB dLen (aCons (eVar 2) aNil))))) (sSeq (sAsg (eOix 2 (eVar 3)) (b2 4 5)) (sSeq (sFor (iL (eVar 0)) (b2 6 7) (sSeq (sIf (bAnd (tst (eOp dEq (eVar 6) (eVar 4))) (tst (eOp dNe (eVar 7) (eVar 5)))) (sAppend 2 (eTup (aCons (eVar 7) (aCons (eVar 4) aNil)))) sNil) (sIf (bAnd (tst (eOp dEq (eVar 7) (eVar 4))) (tst (eOp dNe (eVar 6) (eVar 5)))) (sAppend 2 (eTup (aCons (eVar 6) (aCons (eVar 4) aNil)))) sNil))) (sSet 3 (eOp dAdd (eVar 3) (eC (.int 1))))))) (sFrz [2] (sRet (eVar 2))))))
def g_from_root : List D → Res := runD 8 m_from_root
def m_below_sums : En → Out := (sSeq (sNewT 3) (sSeq (sFor (iL (eVar 1)) (bN 4) (sSeq (sSet 5 (eCall g_shared_row (aCons (eVar 0) (aCons (eVar 4) (aCons (eVar 2) aNil))))) (sDput 3 (eVar 5) (eOp dAdd (eDget 3 (eVar 5) (eC (.int 0))) (eDix 1 (eVar 4)))))) (sFrz [3] (sRet (eVar 3)))))
def g_below_sums : List D → Res := runD 6 m_below_sums
def m_bag_table : En → Out := (sSeq (sNewT 5) (sSeq (sFor (iL (eCall g_colour_rows (aCons (eCB dLen (aCons (eOp dIx (eVar 0) (eVar 1)) aNil)) (aCons (eVar 4) aNil)))) (bN 6) (sIf (tst (eCall g_is_proper (aCons (eOp dIx (eVar 0) (eVar 1)) (aCons (eVar 6) (aCons (eVar 3) aNil))))) (sSeq (sSet 7 (eC (.int 1))) (sSeq (sFor (iL (eVar 2)) (b2 8 9) (sSet 7 (eOp dMul (eVar 7) (eDget 9 (eCall g_shared_row (aCons (eOp dIx (eVar 0) (eVar 1)) (aCons (eVar 6) (aCons (eVar 8) aNil)))) (eC (.int 0)))))) (sDput 5 (eVar 6) (eVar 7)))) sNil)) (sFrz [5] (sRet (eVar 5)))))
def g_bag_table : List D → Res := runD 10 m_bag_table
end
end B

/-! SC: what hangs together; plain. -/
namespace B
open DL
abbrev Ties := List (Int × Int)
def Adj (es : Ties) (a b : Int) : Prop := (a, b) ∈ es ∨ (b, a) ∈ es
theorem Adj.symm {es : Ties} {a b : Int} (h : Adj es a b) : Adj es b a := Or.symm h
inductive Con (es : Ties) (S : List Int) : Int → Int → Prop
  | refl {a : Int} : a ∈ S → Con es S a a
  | step {a b c : Int} : Con es S a b → Adj es b c → c ∈ S → Con es S a c
namespace Con
variable {es : Ties} {S : List Int} {a b c : Int}
theorem left (h : Con es S a b) : a ∈ S := by induction h <;> assumption
theorem right (h : Con es S a b) : b ∈ S := by cases h <;> assumption
theorem trans (h : Con es S a b) (k : Con es S b c) : Con es S a c := by
  induction k with
  | refl _ => exact h
  | step _ e m ih => exact .step ih e m
theorem one (ha : a ∈ S) (e : Adj es a b) (hb : b ∈ S) : Con es S a b := .step (.refl ha) e hb
theorem symm (h : Con es S a b) : Con es S b a := by
  induction h with
  | refl h => exact .refl h
  | step p e m ih => exact (one m e.symm p.right).trans ih
theorem mono {es' : Ties} {S' : List Int} (he : ∀ x y, Adj es x y → Adj es' x y) (hs : ∀ x ∈ S, x ∈ S') (h : Con es S a b) : Con es' S' a b := by
  induction h with
  | refl h => exact .refl (hs _ h)
  | step _ e m ih => exact .step ih (he _ _ e) (hs _ m)
theorem congr {es' : Ties} {S' : List Int} (he : ∀ x y, x ∈ S → y ∈ S → (Adj es x y ↔ Adj es' x y)) (hs : ∀ x, x ∈ S ↔ x ∈ S') : Con es S a b ↔ Con es' S' a b := by
  constructor
  · intro h
    induction h with
    | refl h => exact .refl ((hs _).mp h)
    | step p e m ih => exact .step ih ((he _ _ p.right m).mp e) ((hs _).mp m)
  · intro h
    induction h with
    | refl h => exact .refl ((hs _).mpr h)
    | step p e m ih => exact .step ih ((he _ _ ih.right ((hs _).mpr m)).mpr e) ((hs _).mpr m)
theorem nil (h : Con [] S a b) : b = a := by
  cases h with
  | refl => rfl
  | step _ e _ => rcases e with e | e <;> simp at e
end Con
theorem adj_snoc {es : Ties} {x y a b : Int} : Adj (es ++ [(x, y)]) a b ↔ Adj es a b ∨ (a = x ∧ b = y) ∨ (a = y ∧ b = x) := by
  unfold Adj; simp; grind
theorem con_snoc {es : Ties} {S : List Int} {x y a b : Int} (hx : x ∈ S) (hy : y ∈ S) : Con (es ++ [(x, y)]) S a b ↔ Con es S a b ∨ (Con es S a x ∧ Con es S y b) ∨ (Con es S a y ∧ Con es S x b) := by
  have up : ∀ {u v}, Con es S u v → Con (es ++ [(x, y)]) S u v := fun h => h.mono (fun _ _ e => adj_snoc.mpr (.inl e)) (fun _ h => h)
  have xy : Con (es ++ [(x, y)]) S x y := .one hx (adj_snoc.mpr (.inr (.inl ⟨rfl, rfl⟩))) hy
  constructor
  · intro h
    induction h with
    | refl h => exact .inl (.refl h)
    | step p e m ih =>
      rcases adj_snoc.mp e with e | ⟨rfl, rfl⟩ | ⟨rfl, rfl⟩
      · rcases ih with i | ⟨i, j⟩ | ⟨i, j⟩
        · exact .inl (i.step e m)
        · exact .inr (.inl ⟨i, j.step e m⟩)
        · exact .inr (.inr ⟨i, j.step e m⟩)
      · rcases ih with i | ⟨i, j⟩ | ⟨i, j⟩
        · exact .inr (.inl ⟨i, .refl m⟩)
        · exact .inr (.inl ⟨i, .refl m⟩)
        · exact .inl i
      · rcases ih with i | ⟨i, j⟩ | ⟨i, j⟩
        · exact .inr (.inr ⟨i, .refl m⟩)
        · exact .inl i
        · exact .inr (.inr ⟨i, .refl m⟩)
  · rintro (h | ⟨h, k⟩ | ⟨h, k⟩)
    · exact up h
    · exact (up h).trans (xy.trans (up k))
    · exact (up h).trans (xy.symm.trans (up k))
theorem con_snoc_out {es : Ties} {S : List Int} {x y a b : Int} (h : ¬ (x ∈ S ∧ y ∈ S)) : Con (es ++ [(x, y)]) S a b ↔ Con es S a b :=
  Con.congr (fun u v hu hv => by
    rw [adj_snoc]
    constructor
    · rintro (e | ⟨rfl, rfl⟩ | ⟨rfl, rfl⟩)
      · exact e
      · exact absurd ⟨hu, hv⟩ h
      · exact absurd ⟨hv, hu⟩ h
    · exact .inl) (fun _ => Iff.rfl)
open Classical in
/-- the pieces: for each point that is least in its piece, its piece, both in rising order -/
noncomputable def comps (es : Ties) (S : List Int) : List (List Int) :=
  ((srt S).filter fun p => decide (∀ q ∈ S, Con es S p q → p ≤ q)).map fun p => (srt S).filter fun q => decide (Con es S p q)
/-! labels -/
def IsMin (es : Ties) (S : List Int) (a m : Int) : Prop := Con es S a m ∧ ∀ q, Con es S a q → m ≤ q
theorem IsMin.eq {es : Ties} {S : List Int} {a b m k : Int} (h : IsMin es S a m) (h' : IsMin es S b k) : m = k ↔ Con es S a b := by
  constructor
  · intro e; subst e
    exact h.1.trans h'.1.symm
  · intro e
    have h1 := h.2 _ (e.trans h'.1)
    have h2 := h'.2 _ (e.symm.trans h.1)
    omega
def Lab (es : Ties) (S : List Int) (l : Int → Int) : Prop := ∀ a ∈ S, IsMin es S a (l a)
theorem Lab.nil {S : List Int} : Lab [] S fun a => a := fun a h => ⟨.refl h, fun q hq => by rw [hq.nil]; exact Int.le_refl _⟩
theorem Lab.out {es : Ties} {S : List Int} {l : Int → Int} {x y : Int} (h : Lab es S l) (hn : ¬ (x ∈ S ∧ y ∈ S)) : Lab (es ++ [(x, y)]) S l := fun a ha =>
  ⟨(con_snoc_out hn).mpr (h a ha).1, fun q hq => (h a ha).2 q ((con_snoc_out hn).mp hq)⟩
theorem Lab.step {es : Ties} {S : List Int} {l : Int → Int} {x y : Int} (h : Lab es S l) (hx : x ∈ S) (hy : y ∈ S) (lo hi : Int) (hlo : lo = if l y < l x then l y else l x) (hhi : hi = if l y > l x then l y else l x) :
    Lab (es ++ [(x, y)]) S fun a => if l a = hi then lo else l a := fun a ha => by
  have ex := (h a ha).eq (h x hx)
  have ey := (h a ha).eq (h y hy)
  have hl : ∀ q, Con (es ++ [(x, y)]) S a q → (if l a = hi then lo else l a) ≤ q := fun q hq => by
    rcases (con_snoc hx hy).mp hq with c | ⟨c, d⟩ | ⟨c, d⟩
    · have := (h a ha).2 q c
      grind
    · have h1 := (h y hy).2 q d
      have h2 := ex.mpr c
      grind
    · have h1 := (h x hx).2 q d
      have h2 := ey.mpr c
      grind
  refine ⟨?_, hl⟩
  have up : ∀ {u v}, Con es S u v → Con (es ++ [(x, y)]) S u v := fun h => h.mono (fun _ _ e => adj_snoc.mpr (.inl e)) (fun _ h => h)
  have xy : Con (es ++ [(x, y)]) S x y := .one hx (adj_snoc.mpr (.inr (.inl ⟨rfl, rfl⟩))) hy
  show Con _ S a (if l a = hi then lo else l a)
  by_cases hq : l a = hi
  · rw [if_pos hq]
    by_cases hlt : l y < l x
    · rw [if_pos hlt] at hlo; rw [if_neg (by omega)] at hhi
      rw [hlo]
      exact (up (ex.mp (hq.trans hhi))).trans (xy.trans (up (h y hy).1))
    · rw [if_neg hlt] at hlo
      rw [hlo]
      by_cases hgt : l y > l x
      · rw [if_pos hgt] at hhi
        exact (up (ey.mp (hq.trans hhi))).trans (xy.symm.trans (up (h x hx).1))
      · rw [if_neg hgt] at hhi
        exact (up (ex.mp (hq.trans hhi))).trans (up (h x hx).1)
  · rw [if_neg hq]; exact up (h a ha).1
theorem filter_map_filter {α β : Type} (f : α → β) (p : β → Bool) : ∀ xs : List α, (xs.map f).filter p = (xs.filter fun x => p (f x)).map f
  | [] => rfl
  | x :: r => by
    rw [List.map_cons, List.filter_cons, List.filter_cons, filter_map_filter f p r]
    split <;> rfl
theorem mem_srt {ns : List Int} {x : Int} : x ∈ srt ns ↔ x ∈ ns := (srt_perm ns).mem_iff
/-- the rows by labels are the pieces -/
theorem Lab.rows {es : Ties} {S : List Int} {l : Int → Int} (h : Lab es S l) : (((srt S).map fun lab => (srt S).filter fun p => decide (l p = lab)).filter fun r => decide (r ≠ [])) = comps es S := by
  classical
  rw [filter_map_filter]
  unfold comps
  have e1 : (srt S).filter (fun x => decide ((srt S).filter (fun p => decide (l p = x)) ≠ [])) = (srt S).filter (fun p => decide (∀ q ∈ S, Con es S p q → p ≤ q)) := by
    refine List.filter_congr fun x hx => ?_
    rw [decide_eq_decide, ne_eq, List.filter_eq_nil_iff]
    have hxS := mem_srt.mp hx
    constructor
    · intro hn q hq c
      have : ∃ p ∈ S, l p = x := by
        refine Classical.byContradiction fun z => hn fun p hp => ?_
        simp only [decide_eq_true_eq]
        exact fun e => z ⟨p, mem_srt.mp hp, e⟩
      obtain ⟨p, hp, e⟩ := this
      have m := h p hp
      rw [e] at m
      exact m.2 q (m.1.trans c)
    · intro hm hn
      have m := h x hxS
      have h1 := m.2 x (.refl hxS)
      have h2 := hm _ m.1.right m.1
      have := hn x hx
      simp only [decide_eq_true_eq] at this
      omega
  rw [e1]
  refine List.map_congr_left fun p hp => List.filter_congr fun q hq => ?_
  rw [List.mem_filter] at hp
  have hpS := mem_srt.mp hp.1
  have hqS := mem_srt.mp hq
  rw [decide_eq_decide]
  have hm := of_decide_eq_true hp.2
  have mp : l p = p := by
    have m := h p hpS
    have h1 := m.2 p (.refl hpS)
    have h2 := hm _ m.1.right m.1
    omega
  have := (h q hqS).eq (h p hpS)
  rw [mp] at this
  rw [this]
  exact ⟨Con.symm, Con.symm⟩
theorem comps_congr {es es' : Ties} {S S' : List Int} (hs : srt S = srt S') (he : ∀ a b, Con es S a b ↔ Con es' S' a b) : comps es S = comps es' S' := by
  classical
  unfold comps
  have hm : ∀ q, q ∈ S ↔ q ∈ S' := fun q => by rw [← mem_srt, hs, mem_srt]
  rw [hs]
  have : (fun p => decide (∀ q ∈ S, Con es S p q → p ≤ q)) = fun p => decide (∀ q ∈ S', Con es' S' p q → p ≤ q) := by
    funext p; rw [decide_eq_decide]
    exact ⟨fun h q hq c => h q ((hm q).mpr hq) ((he _ _).mpr c), fun h q hq c => h q ((hm q).mp hq) ((he _ _).mp c)⟩
  rw [this]
  refine List.map_congr_left fun p _ => List.filter_congr fun q _ => ?_
  rw [decide_eq_decide]; exact he _ _
end B

/-! SL: loops by their invariants; the small defs. -/
namespace B
open PySem PySem.Spec PyProof.Rows L2 DL
theorem loop_all {i : Nat} {s : En → Out} {α : Type} (enc : α → D) (I : List α → En → Prop) (xs : List α) (Γ : En) (h0 : I [] Γ)
    (hs : ∀ pre x post Γ, xs = pre ++ x :: post → I pre Γ → ∃ Γ', (s (Γ.set i (.sh (enc x))) = .nx Γ' ∨ s (Γ.set i (.sh (enc x))) = .ct Γ') ∧ I (pre ++ [x]) Γ') : ∃ Γ', loopF (bN i) s (xs.map enc) Γ = .nx Γ' ∧ I xs Γ' := by
  have key : ∀ (post pre : List α) (Γ : En), xs = pre ++ post → I pre Γ → ∃ Γ', loopF (bN i) s (post.map enc) Γ = .nx Γ' ∧ I xs Γ' := by
    intro post
    induction post with
    | nil => intro pre Γ e h; rw [List.append_nil] at e; subst e; exact ⟨Γ, rfl, h⟩
    | cons x r ih =>
      intro pre Γ e h
      obtain ⟨Γ1, e1, h1⟩ := hs pre x r Γ e h
      obtain ⟨Γ2, e2, h2⟩ := ih (pre ++ [x]) Γ1 (by rw [e]; simp) h1
      refine ⟨Γ2, ?_, h2⟩
      rw [List.map_cons, loopF_N]
      rcases e1 with e1 | e1 <;> rw [e1] <;> exact e2
  exact key xs [] Γ rfl h0
theorem loop_all2 {i j : Nat} {s : En → Out} (I : List (Int × Int) → En → Prop) (xs : List (Int × Int)) (Γ : En) (h0 : I [] Γ)
    (hs : ∀ pre x y post Γ, xs = pre ++ (x, y) :: post → I pre Γ → ∃ Γ', (s ((Γ.set i (.sh (.int x))).set j (.sh (.int y))) = .nx Γ' ∨ s ((Γ.set i (.sh (.int x))).set j (.sh (.int y))) = .ct Γ') ∧ I (pre ++ [(x, y)]) Γ') : ∃ Γ', loopF (b2 i j) s (xs.map encP) Γ = .nx Γ' ∧ I xs Γ' := by
  have key : ∀ (post pre : List (Int × Int)) (Γ : En), xs = pre ++ post → I pre Γ → ∃ Γ', loopF (b2 i j) s (post.map encP) Γ = .nx Γ' ∧ I xs Γ' := by
    intro post
    induction post with
    | nil => intro pre Γ e h; rw [List.append_nil] at e; subst e; exact ⟨Γ, rfl, h⟩
    | cons x r ih =>
      intro pre Γ e h
      obtain ⟨x, y⟩ := x
      obtain ⟨Γ1, e1, h1⟩ := hs pre x y r Γ e h
      obtain ⟨Γ2, e2, h2⟩ := ih (pre ++ [(x, y)]) Γ1 (by rw [e]; simp) h1
      refine ⟨Γ2, ?_, h2⟩
      show loopF (b2 i j) s (.tup [.int x, .int y] :: r.map encP) Γ = _
      rw [loopF_2]
      rcases e1 with e1 | e1 <;> rw [e1] <;> exact e2
  exact key xs [] Γ rfl h0
section
variable {i : Nat} {s t : En → Out} {α : Type} {Γ : En}
theorem loopR (enc : α → D) (I : List α → En → Prop) (xs : List α) {R : Res} (h0 : I [] Γ)
    (hs : ∀ pre x post Γ, xs = pre ++ x :: post → I pre Γ → ∃ Γ', (s (Γ.set i (.sh (enc x))) = .nx Γ' ∨ s (Γ.set i (.sh (enc x))) = .ct Γ') ∧ I (pre ++ [x]) Γ') (hk : ∀ Γ', I xs Γ' → (t Γ').res = R) : ((loopF (bN i) s (xs.map enc) Γ).seq t).res = R := by
  obtain ⟨Γ', e, h⟩ := loop_all enc I xs Γ h0 hs
  rw [e]; exact hk Γ' h
theorem loopE (enc : α → D) (I : List α → En → Prop) (xs : List α) {R : Out} (h0 : I [] Γ)
    (hs : ∀ pre x post Γ, xs = pre ++ x :: post → I pre Γ → ∃ Γ', (s (Γ.set i (.sh (enc x))) = .nx Γ' ∨ s (Γ.set i (.sh (enc x))) = .ct Γ') ∧ I (pre ++ [x]) Γ') (hk : ∀ Γ', I xs Γ' → t Γ' = R) : ((loopF (bN i) s (xs.map enc) Γ).seq t) = R := by
  obtain ⟨Γ', e, h⟩ := loop_all enc I xs Γ h0 hs
  rw [e]; exact hk Γ' h
theorem loopX (enc : α → D) (I : List α → En → Prop) (xs : List α) {J : En → Prop} (h0 : I [] Γ)
    (hs : ∀ pre x post Γ, xs = pre ++ x :: post → I pre Γ → ∃ Γ', (s (Γ.set i (.sh (enc x))) = .nx Γ' ∨ s (Γ.set i (.sh (enc x))) = .ct Γ') ∧ I (pre ++ [x]) Γ') (hk : ∀ Γ', I xs Γ' → ∃ Γ'', (t Γ' = .nx Γ'' ∨ t Γ' = .ct Γ'') ∧ J Γ'') : ∃ Γ'', ((loopF (bN i) s (xs.map enc) Γ).seq t = .nx Γ'' ∨ (loopF (bN i) s (xs.map enc) Γ).seq t = .ct Γ'') ∧ J Γ'' := by
  obtain ⟨Γ', e, h⟩ := loop_all enc I xs Γ h0 hs
  rw [e]; exact hk Γ' h
theorem loopX0 (enc : α → D) (I : List α → En → Prop) (xs : List α) {J : En → Prop} (h0 : I [] Γ)
    (hs : ∀ pre x post Γ, xs = pre ++ x :: post → I pre Γ → ∃ Γ', (s (Γ.set i (.sh (enc x))) = .nx Γ' ∨ s (Γ.set i (.sh (enc x))) = .ct Γ') ∧ I (pre ++ [x]) Γ') (hk : ∀ Γ', I xs Γ' → J Γ') : ∃ Γ'', (loopF (bN i) s (xs.map enc) Γ = .nx Γ'' ∨ loopF (bN i) s (xs.map enc) Γ = .ct Γ'') ∧ J Γ'' := by
  obtain ⟨Γ', e, h⟩ := loop_all enc I xs Γ h0 hs
  exact ⟨Γ', .inl e, hk Γ' h⟩
variable {j : Nat}
theorem loopR2 (I : List (Int × Int) → En → Prop) (xs : List (Int × Int)) {R : Res} (h0 : I [] Γ)
    (hs : ∀ pre x y post Γ, xs = pre ++ (x, y) :: post → I pre Γ → ∃ Γ', (s ((Γ.set i (.sh (.int x))).set j (.sh (.int y))) = .nx Γ' ∨ s ((Γ.set i (.sh (.int x))).set j (.sh (.int y))) = .ct Γ') ∧ I (pre ++ [(x, y)]) Γ') (hk : ∀ Γ', I xs Γ' → (t Γ').res = R) : ((loopF (b2 i j) s (xs.map encP) Γ).seq t).res = R := by
  obtain ⟨Γ', e, h⟩ := loop_all2 I xs Γ h0 hs
  rw [e]; exact hk Γ' h
end
/-- a loop that hands back true at the first that is found -/
theorem loop_find {i : Nat} {s : En → Out} {α : Type} (enc : α → D) (I : En → Prop) (p : α → Bool) (d : D) (xs : List α) (Γ : En) (h0 : I Γ)
    (hs : ∀ x ∈ xs, ∀ Γ, I Γ → (p x = true → ∃ Γ', s (Γ.set i (.sh (enc x))) = .ret d Γ') ∧ (p x = false → ∃ Γ', (s (Γ.set i (.sh (enc x))) = .nx Γ' ∨ s (Γ.set i (.sh (enc x))) = .ct Γ') ∧ I Γ')) :
    (xs.any p = true → ∃ Γ', loopF (bN i) s (xs.map enc) Γ = .ret d Γ') ∧ (xs.any p = false → ∃ Γ', loopF (bN i) s (xs.map enc) Γ = .nx Γ' ∧ I Γ') := by
  induction xs generalizing Γ with
  | nil => exact ⟨fun h => by simp at h, fun _ => ⟨Γ, rfl, h0⟩⟩
  | cons x r ih =>
    obtain ⟨h1, h2⟩ := hs x (by simp) Γ h0
    rw [List.map_cons, loopF_N, List.any_cons]
    cases e : p x with
    | true => exact ⟨fun _ => by obtain ⟨Γ', q⟩ := h1 e; exact ⟨Γ', by rw [q]; rfl⟩, fun h => by simp at h⟩
    | false =>
      obtain ⟨Γ1, q, hq⟩ := h2 e
      have ih := ih Γ1 hq fun y hy => hs y (by simp [hy])
      have er : ∀ o, loopF (bN i) s (r.map enc) Γ1 = o → (s (Γ.set i (.sh (enc x)))).loop (loopF (bN i) s (r.map enc)) = o := fun o ho => by rcases q with q | q <;> rw [q] <;> exact ho
      exact ⟨fun h => by obtain ⟨Γ', z⟩ := ih.1 (by simpa using h); exact ⟨Γ', er _ z⟩, fun h => by obtain ⟨Γ', z, z2⟩ := ih.2 (by simpa using h); exact ⟨Γ', er _ z, z2⟩⟩
/-- a while loop by invariant and measure -/
theorem while_all {c : En → Option Bool} {s : En → Out} (I : Nat → En → Prop) (hs : ∀ m Γ, I m Γ → (c Γ = some false) ∨ (c Γ = some true ∧ ∃ Γ' m', m' < m ∧ (s Γ = .nx Γ' ∨ s Γ = .ct Γ') ∧ I m' Γ')) :
    ∀ (m N : Nat) (Γ : En), m < N → I m Γ → ∃ Γ' m', loopW c s N Γ = .nx Γ' ∧ I m' Γ' ∧ c Γ' = some false := by
  intro m
  induction m using Nat.strongRecOn with
  | _ m ih =>
    intro N Γ hN h
    obtain ⟨N, rfl⟩ : ∃ k, N = k + 1 := ⟨N - 1, by omega⟩
    rw [loopW_succ]
    rcases hs m Γ h with e | ⟨e, Γ1, m1, lt, e1, h1⟩
    · rw [e]; exact ⟨Γ, m, rfl, h, e⟩
    · rw [e]
      obtain ⟨Γ2, m2, q1, q2, q3⟩ := ih m1 lt N Γ1 (by omega) h1
      refine ⟨Γ2, m2, ?_, q2, q3⟩
      show (s Γ).loop (loopW c s N) = _
      rcases e1 with e1 | e1 <;> rw [e1] <;> exact q1
theorem whileX {c : En → Option Bool} {s t : En → Out} {Γ : En} {N : Nat} {J : En → Prop} (m : Nat) (I : Nat → En → Prop) (hN : m < N) (h0 : I m Γ)
    (hs : ∀ m Γ, I m Γ → (c Γ = some false) ∨ (c Γ = some true ∧ ∃ Γ', (s Γ = .nx Γ' ∨ s Γ = .ct Γ') ∧ ∃ m', m' < m ∧ I m' Γ')) (hk : ∀ m Γ', I m Γ' → c Γ' = some false → ∃ Γ'', (t Γ' = .nx Γ'' ∨ t Γ' = .ct Γ'') ∧ J Γ'') :
    ∃ Γ'', ((loopW c s N Γ).seq t = .nx Γ'' ∨ (loopW c s N Γ).seq t = .ct Γ'') ∧ J Γ'' := by
  obtain ⟨Γ', m', e, h, hc⟩ := while_all I (fun m Γ h => (hs m Γ h).imp id fun ⟨a, Γ', b, m', d, e⟩ => ⟨a, Γ', m', d, b, e⟩) m N Γ hN h0
  rw [e]; exact hk m' Γ' h hc
theorem nodup_sub_len {α : Type} : ∀ {xs ys : List α}, xs.Nodup → (∀ x ∈ xs, x ∈ ys) → xs.length ≤ ys.length
  | [], _, _, _ => Nat.zero_le _
  | x :: xs, ys, nd, h => by
    obtain ⟨a, b, e⟩ := List.append_of_mem (h x (by simp))
    obtain ⟨n1, n2⟩ := List.nodup_cons.mp nd
    have := nodup_sub_len (xs := xs) (ys := a ++ b) n2 fun y hy => by
      have := h y (by simp [hy])
      rw [e] at this
      rcases List.mem_append.mp this with z | z
      · simp [z]
      · rcases List.mem_cons.mp z with z | z
        · subst z; exact absurd hy n1
        · simp [z]
    rw [e]; simp at this ⊢; omega
theorem compF_all {α β : Type} {i : Nat} {f : En → Option D} {Γ : En} (enc : α → D) (dec : β → D) (h : α → β) (xs : List α) (hf : ∀ x ∈ xs, f (Γ.set i (.sh (enc x))) = some (dec (h x))) : compF (bN i) bYes f Γ (xs.map enc) = some ((xs.map h).map dec) := by
  rw [compF_map Γ enc dec (fun _ => true) h xs (fun _ _ => rfl) (fun x hx _ => hf x hx)]
  rw [show xs.filter (fun _ => true) = xs from List.filter_eq_self.mpr fun _ _ => rfl]
theorem compF_fil {α : Type} {i : Nat} {c : En → Option Bool} {f : En → Option D} {Γ : En} (enc : α → D) (p : α → Bool) (xs : List α) (hc : ∀ x ∈ xs, c (Γ.set i (.sh (enc x))) = some (p x)) (hf : ∀ x ∈ xs, f (Γ.set i (.sh (enc x))) = some (enc x)) : compF (bN i) c f Γ (xs.map enc) = some ((xs.filter p).map enc) := by
  rw [compF_map Γ enc enc p (fun x => x) xs hc (fun x hx _ => hf x hx)]
  simp
theorem compL_all {α : Type} {i : Nat} {f : En → Option (List D)} {Γ : En} (enc : α → D) (h : α → List D) (xs : List α) (hf : ∀ x ∈ xs, f (Γ.set i (.sh (enc x))) = some (h x)) : compL (bN i) bYes f Γ (xs.map enc) = some (xs.map h) := by
  rw [compL_map Γ enc (fun x => x) (fun _ => true) h xs (fun _ _ => rfl) (fun x hx _ => hf x hx)]
  rw [show xs.filter (fun _ => true) = xs from List.filter_eq_self.mpr fun _ _ => rfl]
  simp
/-! dicts -/
section
variable {κ : Type} [DecidableEq κ] {α : Type}
theorem lk_pt (kvs : List (κ × α)) (k k' : κ) (d : α) : lk (pt kvs k d) k' = if k = k' then some d else lk kvs k' := by
  unfold pt
  split
  · rename_i h
    induction kvs with
    | nil => simp [lk_nil] at h
    | cons p r ih =>
      rw [List.map_cons, lk_cons, lk_cons]
      rw [lk_cons] at h
      by_cases hp : p.1 = k
      · rw [if_pos hp]
        dsimp only
        by_cases hk : p.1 = k'
        · rw [if_pos hk, if_pos (by rw [← hp, hk])]
        · have hk2 : ¬ k = k' := fun z => hk (by rw [hp, z])
          rw [if_neg hk, if_neg hk2, if_neg hk]
          by_cases hr : (lk r k).isSome = true
          · rw [ih hr, if_neg hk2]
          · clear ih h
            have hn : ∀ q ∈ r, q.1 ≠ k := fun q hq z => hr (by
              unfold lk; rw [Option.isSome_map, List.find?_isSome]; exact ⟨q, hq, by simp [z]⟩)
            have : r.map (fun p => if p.1 = k then (p.1, d) else p) = r := by
              have : r.map (fun p => if p.1 = k then (p.1, d) else p) = r.map id := List.map_congr_left fun q hq => if_neg (hn q hq)
              rw [this, List.map_id]
            rw [this]
      · rw [if_neg hp] at h ⊢
        rw [ih h]
        by_cases hk : p.1 = k'
        · rw [if_pos hk, if_pos hk, if_neg (fun z => hp (by rw [hk, z]))]
        · rw [if_neg hk, if_neg hk]
  · rename_i h
    induction kvs with
    | nil => rw [List.nil_append, lk_cons, lk_nil]
    | cons p r ih =>
      rw [List.cons_append, lk_cons, lk_cons]
      rw [lk_cons] at h
      by_cases hp : p.1 = k
      · rw [if_pos hp] at h; simp at h
      · rw [if_neg hp] at h
        rw [ih h]
        by_cases hk : p.1 = k'
        · rw [if_pos hk, if_pos hk, if_neg (fun z => hp (by rw [hk, z]))]
        · rw [if_neg hk, if_neg hk]
theorem pt_len (kvs : List (κ × α)) (k : κ) (d : α) : (pt kvs k d).length ≤ kvs.length + 1 := by
  unfold pt; split <;> simp
theorem pt_keys (kvs : List (κ × α)) (k : κ) (d : α) : (pt kvs k d).map (·.1) = if (lk kvs k).isSome then kvs.map (·.1) else kvs.map (·.1) ++ [k] := by
  unfold pt
  split
  · rw [List.map_map]
    refine List.map_congr_left fun p _ => ?_
    simp only [Function.comp_apply]
    split <;> rfl
  · simp
theorem lk_some_key (kvs : List (κ × α)) (k : κ) : (lk kvs k).isSome = true ↔ k ∈ kvs.map (·.1) := by
  unfold lk; rw [Option.isSome_map, List.find?_isSome]; simp
end
/-! the small defs -/
def isInt? : D → Bool
  | .int _ => true
  | _ => false
@[simp] theorem g_is_whole_eq (d : D) : g_is_whole [d] = .ok (.bl (isInt? d)) := by cases d <;> rfl
@[simp] theorem g_law_whole_eq (d : D) : g_law_whole [d] = .ok (.bl (isInt? d)) := by cases d <;> rfl
@[simp] theorem isInt?_i (i : Int) : isInt? (.int i) = true := rfl
def spread (n : Int) : Int := n * 48271 % 2147483647 + n / 2147483647 * 2147483647
@[simp] theorem g_law_spread_eq (n : Int) : g_law_spread [.int n] = .ok (.int (spread n)) := by
  unfold g_law_spread; rw [runD_eq]; unfold m_law_spread; simp; rfl
def cellAt (ns : List Int) (k : Nat) : Int := match ns[k]? with
  | some n => spread n
  | none => 0
theorem g_law_cell_at_eq (ns : List Int) (k : Nat) : g_law_cell_at [.scr ns, .int k] = .ok (.int (cellAt ns k)) := by
  unfold g_law_cell_at; rw [runD_eq]; unfold m_law_cell_at; simp
  unfold cellAt
  by_cases h : k < ns.length
  · simp [dLt, dI, h, atI_nn h]
  · simp [dLt, dI, h]
end B

/-! SA: the law's own pieces. -/
namespace B
open PySem PySem.Spec PyProof.Rows L2 DL
abbrev encI (ns : List Int) : D := .lst (ns.map D.int)
abbrev encT (es : Ties) : D := .lst (es.map encP)
abbrev encR (rs : List (List Int)) : D := .lst (rs.map encI)
theorem eqvAll_enc {α : Type} [DecidableEq α] (enc : α → D) (h : ∀ a b, eqv (enc a) (enc b) = decide (a = b)) : ∀ xs ys : List α, PyData.eqvAll (toPyL (xs.map enc)) (toPyL (ys.map enc)) = decide (xs = ys)
  | [], [] => by simp [toPyL, PyData.eqvAll]
  | [], _ :: _ => by simp [toPyL, PyData.eqvAll]
  | _ :: _, [] => by simp [toPyL, PyData.eqvAll]
  | x :: xs, y :: ys => by
    rw [List.map_cons, List.map_cons, toPyL, toPyL, PyData.eqvAll, eqvAll_enc enc h xs ys]
    have := h x y
    unfold eqv at this
    rw [this, ← Bool.decide_and]
    simp
theorem eqv_lst {α : Type} [DecidableEq α] (enc : α → D) (h : ∀ a b, eqv (enc a) (enc b) = decide (a = b)) (xs ys : List α) : eqv (.lst (xs.map enc)) (.lst (ys.map enc)) = decide (xs = ys) := by
  unfold eqv toPy
  simp only [PyData.eqv]
  exact eqvAll_enc enc h xs ys
theorem eqv_tup {α : Type} [DecidableEq α] (enc : α → D) (h : ∀ a b, eqv (enc a) (enc b) = decide (a = b)) (xs ys : List α) : eqv (.tup (xs.map enc)) (.tup (ys.map enc)) = decide (xs = ys) := by
  unfold eqv toPy
  simp only [PyData.eqv]
  exact eqvAll_enc enc h xs ys
theorem eqv_I (a b : Int) : eqv (.int a) (.int b) = decide (a = b) := eqv_ii a b
theorem eqv_P (p q : Int × Int) : eqv (encP p) (encP q) = decide (p = q) := by
  have := eqv_tup D.int eqv_I [p.1, p.2] [q.1, q.2]
  show eqv (.tup ([p.1, p.2].map D.int)) (.tup ([q.1, q.2].map D.int)) = _
  rw [this]
  obtain ⟨a, b⟩ := p; obtain ⟨c, d⟩ := q
  simp
theorem eqv_L (xs ys : List Int) : eqv (encI xs) (encI ys) = decide (xs = ys) := eqv_lst D.int eqv_I xs ys
theorem eqv_T (xs ys : Ties) : eqv (encT xs) (encT ys) = decide (xs = ys) := eqv_lst encP eqv_P xs ys
theorem eqv_R (xs ys : List (List Int)) : eqv (encR xs) (encR ys) = decide (xs = ys) := eqv_lst encI eqv_L xs ys
theorem okN_enc {α : Type} (enc : α → D) {n : Nat} (h : ∀ a, okN n (enc a) = true) (xs : List α) : okN (n + 1) (.lst (xs.map enc)) = true := by
  rw [okN_l, List.all_map, List.all_eq_true]; exact fun x _ => h x
theorem okN_P (n : Nat) (p : Int × Int) : okN (n + 1) (encP p) = true := okN_p n p
theorem okN_I (n : Nat) (xs : List Int) : okN (n + 1) (encI xs) = true := okN_enc D.int (okN_i n) xs
theorem okN_T (n : Nat) (xs : Ties) : okN (n + 2) (encT xs) = true := okN_enc encP (okN_p n) xs
theorem okN_R (n : Nat) (xs : List (List Int)) : okN (n + 2) (encR xs) = true := okN_enc encI (okN_I n) xs
/-! == and in, coded -/
@[simp] theorem dEq_L (xs ys : List Int) : dEq (encI xs) (encI ys) = some (.bl (decide (xs = ys))) := by rw [dEq_ok _ _ (okN_I 8 _) (okN_I 8 _), eqv_L]
@[simp] theorem dNe_L (xs ys : List Int) : dNe (encI xs) (encI ys) = some (.bl (!decide (xs = ys))) := by rw [dNe_ok _ _ (okN_I 8 _) (okN_I 8 _), eqv_L]
@[simp] theorem dEq_R (xs ys : List (List Int)) : dEq (encR xs) (encR ys) = some (.bl (decide (xs = ys))) := by rw [dEq_ok _ _ (okN_R 7 _) (okN_R 7 _), eqv_R]
@[simp] theorem dNe_R (xs ys : List (List Int)) : dNe (encR xs) (encR ys) = some (.bl (!decide (xs = ys))) := by rw [dNe_ok _ _ (okN_R 7 _) (okN_R 7 _), eqv_R]
theorem inB_enc {α : Type} [DecidableEq α] (enc : α → D) (h : ∀ a b, eqv (enc a) (enc b) = decide (a = b)) (x : α) (xs : List α) : inB (enc x) (xs.map enc) = decide (x ∈ xs) := by
  unfold inB
  rw [List.any_map]
  induction xs with
  | nil => simp
  | cons y r ih =>
    rw [List.any_cons, ih]
    simp only [Function.comp_apply, h]
    rw [← Bool.decide_or, decide_eq_decide, List.mem_cons, eq_comm]
theorem dIn_enc {α : Type} [DecidableEq α] (enc : α → D) (h : ∀ a b, eqv (enc a) (enc b) = decide (a = b)) (ok : ∀ a, okN 8 (enc a) = true) (x : α) (xs : List α) : dIn (enc x) (.lst (xs.map enc)) = some (.bl (decide (x ∈ xs))) := by
  unfold dIn items
  have : (xs.map enc).all (okN 8) = true := by rw [List.all_map, List.all_eq_true]; exact fun x _ => ok x
  simp only [Option.bind_some]
  rw [if_pos ⟨ok x, this⟩, inB_enc enc h]
theorem dNotIn_enc {α : Type} [DecidableEq α] (enc : α → D) (h : ∀ a b, eqv (enc a) (enc b) = decide (a = b)) (ok : ∀ a, okN 8 (enc a) = true) (x : α) (xs : List α) : dNotIn (enc x) (.lst (xs.map enc)) = some (.bl (!decide (x ∈ xs))) := by
  unfold dNotIn items
  have : (xs.map enc).all (okN 8) = true := by rw [List.all_map, List.all_eq_true]; exact fun x _ => ok x
  simp only [Option.bind_some]
  rw [if_pos ⟨ok x, this⟩, inB_enc enc h]
@[simp] theorem dIn_I (x : Int) (xs : List Int) : dIn (.int x) (.lst (xs.map D.int)) = some (.bl (decide (x ∈ xs))) := dIn_enc D.int eqv_I (okN_i 8) x xs
@[simp] theorem dNotIn_I (x : Int) (xs : List Int) : dNotIn (.int x) (.lst (xs.map D.int)) = some (.bl (!decide (x ∈ xs))) := dNotIn_enc D.int eqv_I (okN_i 8) x xs
@[simp] theorem dIn_P (x : Int × Int) (xs : Ties) : dIn (encP x) (.lst (xs.map encP)) = some (.bl (decide (x ∈ xs))) := by rw [dIn_enc encP eqv_P (okN_P 7) x xs]; congr
@[simp] theorem dNotIn_P (x : Int × Int) (xs : Ties) : dNotIn (encP x) (.lst (xs.map encP)) = some (.bl (!decide (x ∈ xs))) := by rw [dNotIn_enc encP eqv_P (okN_P 7) x xs]; congr
/-- a point in a tie -/
@[simp] theorem dIn_tie (x : Int) (p : Int × Int) : dIn (.int x) (encP p) = some (.bl (decide (x = p.1 ∨ x = p.2))) := by
  unfold dIn items encP
  simp [inB, eqv_I]
  rw [Bool.eq_iff_iff]; simp; grind
@[simp] theorem dIx_P0 (p : Int × Int) : dIx (encP p) (.int 0) = some (.int p.1) := rfl
@[simp] theorem dIx_P1 (p : Int × Int) : dIx (encP p) (.int 1) = some (.int p.2) := rfl
/-! the ties of a law -/
def tieOf (c n : Int) : Int × Int :=
  let a := c % n
  let b := (a + 1 + c / n % (if n - 1 > 1 then n - 1 else 1)) % n
  (if b < a then b else a, if b > a then b else a)
theorem g_law_tie_eq {c n : Int} (h : 0 < n) (h2 : n < 2 ^ 64) : g_law_tie [.int c, .int n] = .ok (encP (tieOf c n)) := by
  unfold g_law_tie; rw [runD_eq]; unfold m_law_tie
  have : 0 < (if 1 < n - 1 then n - 1 else 1) := by split <;> omega
  simp [h, h2, List.replicate]
  rw [if_pos (by omega)]
  simp [this, h, encP, tieOf]
def tieStep (n : Int) (made : Ties) (c : Int) : Ties := if (tieOf c n).1 ≠ (tieOf c n).2 ∧ tieOf c n ∉ made then made ++ [tieOf c n] else made
def tiesOf (cs : List Int) (n : Int) : Ties := cs.foldl (tieStep n) []
theorem tieStep_len (n : Int) (made : Ties) (c : Int) : (tieStep n made c).length ≤ made.length + 1 := by unfold tieStep; split <;> simp
theorem foldl_tie_len (n : Int) : ∀ (cs : List Int) (made : Ties), (cs.foldl (tieStep n) made).length ≤ made.length + cs.length
  | [], made => by simp
  | c :: cs, made => by
    have h1 := foldl_tie_len n cs (tieStep n made c)
    have h2 := tieStep_len n made c
    simp only [List.foldl_cons, List.length_cons]; omega
theorem g_law_ties_eq {cs : List Int} {n : Int} (h : 0 < n) (h2 : n < 2 ^ 64) (hl : cs.length < 1000) : g_law_ties [.lst (cs.map D.int), .int n] = .ok (encT (tiesOf cs n)) := by
  unfold g_law_ties; rw [runD_eq]; unfold m_law_ties
  simp [List.replicate]
  refine loopR D.int (fun pre Γ => ∃ x y, Γ = [.sh (.lst (cs.map D.int)), .sh (.int n), .ol ((tiesOf pre n).map encP), x, y]) cs ⟨_, _, rfl⟩ ?_ ?_
  · rintro pre c post Γ hc ⟨x, y, rfl⟩
    have hlen : (tiesOf pre n).length < 1000000 := by
      have := foldl_tie_len n pre []
      have : pre.length ≤ cs.length := by rw [hc]; simp
      unfold tiesOf; simp at *; omega
    have e1 : tiesOf (pre ++ [c]) n = tieStep n (tiesOf pre n) c := by unfold tiesOf; simp
    rw [e1]
    unfold tieStep
    by_cases h3 : (tieOf c n).1 = (tieOf c n).2 <;> by_cases h4 : tieOf c n ∈ tiesOf pre n <;> simp [g_law_tie_eq h h2, h3, h4, hlen]
  · rintro Γ' ⟨x, y, rfl⟩
    simp
theorem foldl_snoc {α β : Type} (f : β → α → β) (b : β) (xs : List α) (x : α) : (xs ++ [x]).foldl f b = f (xs.foldl f b) x := by simp
/-- a dict whose keys are S, in that order -/
def labD (S : List Int) (l : Int → Int) : List (Int × D) := S.map fun p => (p, D.int (l p))
theorem lk_labD (S : List Int) (l : Int → Int) (k : Int) : lk (labD S l) k = if k ∈ S then some (.int (l k)) else none := by
  induction S with
  | nil => rfl
  | cons p r ih =>
    show lk ((p, D.int (l p)) :: labD r l) k = _
    rw [lk_cons, ih]
    by_cases h : p = k
    · subst h; simp
    · have : ¬ k = p := fun z => h z.symm
      simp [h, this]
theorem pt_labD {S : List Int} {l : Int → Int} {k : Int} (v : Int) (h : k ∈ S) : pt (labD S l) k (.int v) = labD S fun p => if p = k then v else l p := by
  unfold pt
  rw [lk_labD, if_pos h]
  simp only [Option.isSome_some, if_true]
  unfold labD
  rw [List.map_map]
  refine List.map_congr_left fun p _ => ?_
  simp only [Function.comp_apply]
  split <;> rfl
theorem pt_labD_new {S : List Int} {l : Int → Int} {k : Int} (h : k ∉ S) : pt (labD S l) k (.int (l k)) = labD (S ++ [k]) l := by
  unfold pt
  rw [lk_labD, if_neg h]
  simp [labD]
theorem g_law_among_eq {es : Ties} {S : List Int} (nd : S.Nodup) (hl : S.length ≤ 1000) : g_law_among [encT es, encI S] = .ok (encR (comps es S)) := by
  unfold g_law_among; rw [runD_eq]; unfold m_law_among
  simp [List.replicate]
  refine loopR D.int (fun pre Γ => ∃ x3, Γ = [.sh (encT es), .sh (encI S), .ok (labD pre fun a => a), x3, .no, .no, .no, .no, .no, .no, .no]) S ⟨_, rfl⟩ ?_ ?_
  · rintro pre p post Γ hp ⟨x3, rfl⟩
    have hn : p ∉ pre := by rw [hp] at nd; exact fun z => (List.nodup_append.mp nd).2.2 p z p (by simp) rfl
    have hlen : (labD pre fun a => a).length < 1000000 := by
      have : pre.length ≤ S.length := by rw [hp]; simp
      simp [labD]; omega
    have := pt_labD_new (l := fun a => a) hn
    simp [hlen, this]
  rintro Γ ⟨x3, rfl⟩
  simp
  refine loopR2 (fun pre Γ => ∃ l x3 x4 x5 x6 x7, Lab pre S l ∧ Γ = [.sh (encT es), .sh (encI S), .ok (labD S l), x3, x4, x5, x6, x7, .no, .no, .no]) es ⟨_, _, _, _, _, _, Lab.nil, rfl⟩ ?_ ?_
  · rintro pre x y post Γ hp ⟨l, x3, x4, x5, x6, x7, hL, rfl⟩
    by_cases hx : x ∈ S
    case neg =>
      simp [lk_labD, hx]
      exact ⟨l, hL.out (by simp [hx]), rfl⟩
    by_cases hy : y ∈ S
    case neg =>
      simp [lk_labD, hx, hy]
      exact ⟨l, hL.out (by simp [hy]), rfl⟩
    simp [lk_labD, hx, hy]
    have hL2 := hL.step hx hy _ _ rfl rfl
    generalize (if l y < l x then l y else l x) = lo at *
    generalize (if l x < l y then l y else l x) = hi at *
    refine loopX0 D.int (fun qre Γ => ∃ x3, Γ = [.sh (encT es), .sh (encI S), .ok (labD S fun a => if a ∈ qre ∧ l a = hi then lo else l a), x3, .sh (.int x), .sh (.int y), .sh (.int lo), .sh (.int hi), .no, .no, .no]) S ⟨x3, by simp⟩ ?_ ?_
    · rintro qre q post2 Γ hq ⟨x3, rfl⟩
      have hqS : q ∈ S := by rw [hq]; simp
      have hn : q ∉ qre := by rw [hq] at nd; exact fun z => (List.nodup_append.mp nd).2.2 q z q (by simp) rfl
      have hlen : ∀ l, (labD S l).length < 1000000 := fun l => by simp [labD]; omega
      by_cases he : l q = hi
      · simp [lk_labD, hqS, hn, he, hlen, pt_labD]
        congr 1
        funext a
        grind
      · simp [lk_labD, hqS, hn, he]
        congr 1
        funext a
        grind
    · rintro Γ ⟨x3, rfl⟩
      refine ⟨_, hL2, ?_⟩
      simp
      exact List.map_congr_left fun a ha => by simp [ha]
  rintro Γ ⟨l, x3, x4, x5, x6, x7, hL, rfl⟩
  have hs : ∀ x ∈ srt S, x ∈ S := fun x h => mem_srt.mp h
  have hl2 : (srt S).length ≤ 1000000 := by rw [(srt_perm S).length_eq]; omega
  simp [hl2]
  rw [compF_all D.int encI fun lab => (srt S).filter fun p => decide (l p = lab)]
  rotate_left
  · intro lab hlab
    simp [hl2]
    rw [compF_fil D.int fun p => decide (l p = lab)]
    · intro p hp; simp [lk_labD, hs p hp]
    · intro p hp; simp
  simp [hl2, -List.map_map]
  rw [compF_fil encI fun r => decide (r ≠ [])]
  rotate_left
  · intro r _
    simp
    show (dNe (encI r) (encI [])).bind isBl = _
    rw [dNe_L]
    simp
  · intro r _; simp
  rw [← hL.rows]
  rfl
end B

/-! SB: the program's own pieces. -/
namespace B
open PySem PySem.Spec PyProof.Rows L2 DL
theorem runD_of {N : Nat} {b : En → Out} {ds : List D} {o : Out} (h : b (ds.map Sl.sh ++ List.replicate (N - ds.length) .no) = o) : runD N b ds = o.res := by rw [runD_eq, h]
theorem runO_of {N : Nat} {b : En → Out} {ds : List D} {s : Sl} (h : b (ds.map Sl.sh ++ List.replicate (N - ds.length) .no) = .rto s) : runO N b ds = some s := by unfold runO; rw [h]
/-- the ends of the ties at v, as they come -/
def nbs (es : Ties) (v : Int) : List Int := es.flatMap fun p => (if p.1 = v then [p.2] else []) ++ (if p.2 = v then [p.1] else [])
def nb (es : Ties) (v : Int) : List Int := srt (nbs es v)
def near (n : Int) (es : Ties) : List (List Int) := (List.range n.toNat).map fun (v : Nat) => nb es v
structure Web (n : Int) (es : Ties) : Prop where
  lo : 1 ≤ n
  hi : n ≤ 10
  nd : es.Nodup
  len : es.length ≤ 1000
  ok : ∀ p ∈ es, 0 ≤ p.1 ∧ p.1 < p.2 ∧ p.2 < n
theorem nbs_len (es : Ties) (v : Int) : (nbs es v).length ≤ 2 * es.length := by
  induction es with
  | nil => simp [nbs]
  | cons p r ih =>
    have e : nbs (p :: r) v = ((if p.1 = v then [p.2] else []) ++ (if p.2 = v then [p.1] else [])) ++ nbs r v := by unfold nbs; rw [List.flatMap_cons]
    rw [e, List.length_append, List.length_append, List.length_cons]
    split <;> split <;> simp <;> omega
theorem mem_nbs {es : Ties} {v w : Int} : w ∈ nbs es v ↔ Adj es v w := by
  unfold nbs Adj
  rw [List.mem_flatMap]
  constructor
  · rintro ⟨⟨a, b⟩, h, hm⟩
    rcases List.mem_append.mp hm with z | z
    · split at z
      · rename_i e; simp at z e; subst z e; exact .inl h
      · simp at z
    · split at z
      · rename_i e; simp at z e; subst z e; exact .inr h
      · simp at z
  · rintro (h | h)
    · exact ⟨_, h, by simp⟩
    · exact ⟨_, h, by simp⟩
theorem mem_nb {es : Ties} {v w : Int} : w ∈ nb es v ↔ Adj es v w := by unfold nb; rw [mem_srt, mem_nbs]
theorem srt_perm_eq {a b : List Int} (h : a.Perm b) : srt a = srt b := srt_uniq ((srt_perm a).trans h) (srt_sorted a)
theorem perm_flatMap {α β : Type} (f : α → List β) {a b : List α} (h : a.Perm b) : (a.flatMap f).Perm (b.flatMap f) := h.flatMap_right f
theorem nb_perm {a b : Ties} (h : a.Perm b) (v : Int) : nb a v = nb b v := srt_perm_eq (perm_flatMap _ h)
theorem nbs_snoc (es : Ties) (p : Int × Int) (v : Int) : nbs (es ++ [p]) v = nbs es v ++ ((if p.1 = v then [p.2] else []) ++ (if p.2 = v then [p.1] else [])) := by
  unfold nbs; simp
theorem range_set {β : Type} (f : Nat → β) (n v : Nat) (x : β) : ((List.range n).map f).set v x = (List.range n).map fun u => if u = v then x else f u := by
  refine List.ext_getElem? fun i => ?_
  rw [List.getElem?_set, List.getElem?_map, List.getElem?_map, List.length_map, List.length_range]
  by_cases h : i < n
  · rw [List.getElem?_range h]
    by_cases hv : v = i
    · subst hv; simp [h]
    · have : ¬ i = v := fun z => hv z.symm
      simp [hv, this]
  · have : (List.range n)[i]? = none := by simp; omega
    rw [this]
    by_cases hv : v = i
    · subst hv; simp [h]
    · simp [hv]
theorem ixN_of {n : Nat} {v : Int} (h0 : 0 ≤ v) (h1 : v < n) : ixN n v = some v.toNat := by
  unfold ixN; rw [if_pos h0, if_pos h1]
theorem rowO_eq {i N a : Nat} {f : Nat → List D} {d : D} {Γ : En} (h : a < N) (hl : (f a).length < 1000000) : rowO i (.oll ((List.range N).map f)) (some (.int a)) (some d) Γ = .nx (Γ.set i (.oll ((List.range N).map fun u => if u = a then f a ++ [d] else f u))) := by
  have h1 := ixN_of (n := N) (v := a) (by omega) (by omega)
  show (match ixN ((List.range N).map f).length (a : Int) with
    | some j => (match ((List.range N).map f)[j]? with
      | some row => if row.length < 1000000 then Out.nx (Γ.set i (.oll (((List.range N).map f).set j (row ++ [d])))) else .bad
      | none => .bad)
    | none => .bad) = _
  rw [List.length_map, List.length_range, h1]
  simp [List.getElem?_range h, hl, range_set]
theorem m_near_of_eq {n : Int} {es : Ties} (h : Web n es) : m_near_of ([.int n, encT es].map Sl.sh ++ List.replicate 4 .no) = .rto (.oll ((near n es).map fun r => r.map D.int)) := by
  unfold m_near_of
  have hlo := h.lo
  have hhi := h.hi
  have e1 : 0 ≤ n ∧ n ≤ 1000 := by omega
  simp [List.replicate, e1]
  have sm : ∀ p, p ∈ srtP es ↔ p ∈ es := fun p => (srtP_perm es).mem_iff
  have hrep : List.replicate n.toNat [] = (List.range n.toNat).map fun (v : Nat) => (nbs [] v).map D.int := by
    refine List.ext_getElem? fun i => ?_
    by_cases hi : i < n.toNat
    · simp [hi, nbs]
    · simp [hi]
  rw [hrep]
  refine loopE encP (fun pre Γ => ∃ x, Γ = [.sh (.int n), .sh (encT es), .oll ((List.range n.toNat).map fun (v : Nat) => (nbs pre v).map D.int), .no, x, .no]) (srtP es) ⟨_, rfl⟩ ?_ ?_
  · rintro pre p post Γ hp ⟨x, rfl⟩
    obtain ⟨h1, h2, h3⟩ := h.ok p ((sm p).mp (by rw [hp]; simp))
    obtain ⟨⟨a, ha⟩, ⟨b, hb⟩⟩ : (∃ a : Nat, p.1 = a) ∧ ∃ b : Nat, p.2 = b := ⟨⟨p.1.toNat, by omega⟩, ⟨p.2.toNat, by omega⟩⟩
    have hla : a < n.toNat := by omega
    have hlb : b < n.toNat := by omega
    have hab : a ≠ b := by omega
    have hl := h.len
    have hpre : pre.length ≤ es.length := by
      have := congrArg List.length hp
      rw [(srtP_perm es).length_eq] at this
      simp at this; omega
    have hn : ∀ v, (nbs pre v).length < 1000000 := fun v => by have := nbs_len pre v; omega
    simp only [sSeq_ap, sRowApp_ap, eOp_ap, eVar_ap, eC_ap, gs_s, gs_0, gv_s, gv_0, List.set_cons_succ, List.set_cons_zero, Option.bind_some, dIx_P0, dIx_P1, ha, hb]
    rw [rowO_eq hla (by simp [hn])]
    simp only [seq_nx, sRowApp_ap, eOp_ap, eVar_ap, eC_ap, List.set_cons_succ, List.set_cons_zero, gs_s, gs_0, gv_s, gv_0, Option.bind_some, dIx_P0, dIx_P1, ha, hb]
    rw [rowO_eq hlb (by rw [if_neg hab.symm]; simp [hn])]
    refine ⟨_, .inl rfl, .sh (encP p), ?_⟩
    simp only [List.set_cons_succ, List.set_cons_zero]
    congr 4
    refine List.map_congr_left fun v hv => ?_
    rw [nbs_snoc, ha, hb]
    by_cases h4 : v = a
    · subst h4; simp [hab]; omega
    · by_cases h5 : v = b
      · subst h5; simp [h4]; omega
      · simp [h4, h5]; omega
  · rintro Γ ⟨x, rfl⟩
    have hn : n ≤ 1000000 := by omega
    simp [hn]
    have : (List.map (D.lst ∘ fun (v : Nat) => List.map D.int (nbs (srtP es) ↑v)) (List.range n.toNat)) = ((List.range n.toNat).map fun (v : Nat) => nbs (srtP es) v).map encI := by simp
    rw [this, compL_all encI fun r => (srt r).map D.int]
    · simp [near]
      intro a ha
      rw [← nb_perm (srtP_perm es)]
      rfl
    · intro r hr
      simp
end B

/-! SP: the walk through a piece. -/
namespace B
open PySem PySem.Spec PyProof.Rows L2 DL
def setD (ks : List Int) : List (Int × D) := ks.map fun k => (k, D.bl true)
theorem lk_setD (ks : List Int) (k : Int) : lk (setD ks) k = if k ∈ ks then some (.bl true) else none := by
  induction ks with
  | nil => rfl
  | cons p r ih =>
    show lk ((p, D.bl true) :: setD r) k = _
    rw [lk_cons, ih]
    by_cases h : p = k
    · subst h; simp
    · have : ¬ k = p := fun z => h z.symm
      simp [h, this]
theorem pt_setD {ks : List Int} {k : Int} (h : k ∉ ks) : pt (setD ks) k (.bl true) = setD (ks ++ [k]) := by
  unfold pt
  rw [lk_setD, if_neg h]
  simp [setD]
theorem setD_len (ks : List Int) : (setD ks).length = ks.length := by simp [setD]
/-- the walk: what is met, what is in hand, how far -/
structure Bf (es : Ties) (S ks0 : List Int) (p : Int) (ks piece : List Int) : Prop where
  knd : ks.Nodup
  ksub : ∀ k ∈ ks, k ∈ S
  nd : piece.Nodup
  has : p ∈ piece
  con : ∀ x ∈ piece, Con es S p x
  met : ∀ k, k ∈ ks ↔ k ∈ ks0 ∨ k ∈ piece
  apart : ∀ k, Con es S p k → k ∉ ks0
theorem Bf.add {es : Ties} {S ks0 : List Int} {p w v : Int} {ks piece : List Int} (b : Bf es S ks0 p ks piece) (hv : v ∈ piece) (ha : Adj es v w) (hw : w ∈ S) (hn : w ∉ ks) : Bf es S ks0 p (ks ++ [w]) (piece ++ [w]) := by
  have hc : Con es S p w := (b.con v hv).step ha hw
  refine ⟨?_, ?_, ?_, ?_, ?_, ?_, b.apart⟩
  · refine List.nodup_append.mpr ⟨b.knd, by simp, fun x hx y hy z => ?_⟩
    simp at hy; subst hy z; exact hn hx
  · intro k hk
    rcases List.mem_append.mp hk with z | z
    · exact b.ksub k z
    · simp at z; subst z; exact hw
  · refine List.nodup_append.mpr ⟨b.nd, by simp, fun x hx y hy z => ?_⟩
    simp at hy; subst hy z; exact hn ((b.met _).mpr (.inr hx))
  · simp [b.has]
  · intro x hx
    rcases List.mem_append.mp hx with z | z
    · exact b.con x z
    · simp at z; subst z; exact hc
  · intro k; simp [b.met]; grind
theorem Bf.done {es : Ties} {S ks0 : List Int} {p : Int} {ks piece : List Int} (b : Bf es S ks0 p ks piece) (hcl : ∀ v ∈ piece, ∀ w ∈ S, Adj es v w → w ∈ piece) (x : Int) : x ∈ piece ↔ Con es S p x := by
  refine ⟨b.con x, fun h => ?_⟩
  induction h with
  | refl _ => exact b.has
  | step _ e m ih => exact hcl _ ih _ m e
/-- sorted and without doubles: told by its members -/
theorem sorted_eq {a b : List Int} (ha : a.Pairwise (· ≤ ·)) (hb : b.Pairwise (· ≤ ·)) (na : a.Nodup) (nb : b.Nodup) (h : ∀ x, x ∈ a ↔ x ∈ b) : a = b :=
  List.Perm.eq_of_pairwise (fun x y _ _ h1 h2 => Int.le_antisymm h1 h2) ha hb ((List.perm_ext_iff_of_nodup na nb).mpr h)
theorem srt_nodup {a : List Int} (h : a.Nodup) : (srt a).Nodup := (srt_perm a).nodup_iff.mpr h
theorem m_parts_among_eq {es : Ties} {S : List Int} {rows : List (List Int)} (nd : S.Nodup) (hl : S.length ≤ 1000) (hr : ∀ v ∈ S, 0 ≤ v ∧ ∃ r, rows[v.toNat]? = some r ∧ ∀ w ∈ S, (w ∈ r ↔ Adj es v w)) :
    m_parts_among ([encR rows, encI S].map Sl.sh ++ List.replicate 6 .no) = .rto (.oll ((comps es S).map fun r => r.map D.int)) := by
  classical
  unfold m_parts_among
  simp [List.replicate]
  have hs : ∀ x, x ∈ srt S ↔ x ∈ S := fun x => mem_srt
  have snd := srt_nodup nd
  let least : Int → Bool := fun p => decide (∀ q ∈ S, Con es S p q → p ≤ q)
  let cls : Int → List Int := fun p => (srt S).filter fun q => decide (Con es S p q)
  refine loopE D.int (fun pre Γ => ∃ ks x4 x5 x6 x7, ks.Nodup ∧ (∀ k, k ∈ ks ↔ ∃ q ∈ pre, Con es S q k) ∧ Γ = [.sh (encR rows), .sh (encI S), .oll (((pre.filter least).map cls).map fun r => r.map D.int), .ok (setD ks), x4, x5, x6, x7]) (srt S) ⟨[], _, _, _, _, by simp, by simp, rfl⟩ ?_ ?_
  · rintro pre p post Γ hp ⟨ks, x4, x5, x6, x7, hk1, hk2, rfl⟩
    have hpS : p ∈ S := (hs p).mp (by rw [hp]; simp)
    have sorted := srt_sorted S
    rw [hp] at sorted snd
    have hlt : ∀ q ∈ pre, q < p := fun q hq => by
      have h1 := (List.pairwise_append.mp sorted).2.2 q hq p (by simp)
      have h2 := (List.nodup_append.mp snd).2.2 q hq p (by simp)
      omega
    have hpre : ∀ q ∈ S, q < p → q ∈ pre := fun q hq hlt => by
      have := (hs q).mpr hq
      rw [hp] at this
      rcases List.mem_append.mp this with z | z
      · exact z
      · rcases List.mem_cons.mp z with z | z
        · omega
        · have := (List.pairwise_cons.mp (List.pairwise_append.mp sorted).2.1).1 q z
          omega
    by_cases hm : p ∈ ks
    · obtain ⟨q, hq, hc⟩ := (hk2 p).mp hm
      have hnl : least p = false := by
        simp only [least, decide_eq_false_iff_not]
        intro h
        have := h q hc.left hc.symm
        have := hlt q hq
        omega
      simp [lk_setD, hm]
      refine ⟨ks, hk1, fun k => ?_, by simp [hnl], rfl⟩
      rw [hk2]
      constructor
      · intro h; exact .inl h
      · rintro (h | h)
        · exact h
        · exact ⟨q, hq, hc.trans h⟩
    · have hll : least p = true := by
        simp only [least, decide_eq_true_eq]
        intro q hq c
        refine Classical.byContradiction fun z => hm ?_
        exact (hk2 p).mpr ⟨q, hpre q hq (by omega), c.symm⟩
      have hkl : (setD ks).length < 1000000 := by
        rw [setD_len]
        have := nodup_sub_len hk1 fun k hk => by obtain ⟨q, _, c⟩ := (hk2 k).mp hk; exact c.right
        omega
      simp [lk_setD, hm, hkl, pt_setD hm]
      have b0 : Bf es S ks p (ks ++ [p]) [p] := by
        refine ⟨?_, ?_, by simp, by simp, by simpa using Con.refl hpS, by simp, fun k c hk => ?_⟩
        · refine List.nodup_append.mpr ⟨hk1, by simp, fun x hx y hy z => ?_⟩
          simp at hy; subst hy z; exact hm hx
        · intro k hk
          rcases List.mem_append.mp hk with z | z
          · obtain ⟨q, _, c⟩ := (hk2 k).mp z; exact c.right
          · simp at z; subst z; exact hpS
        · obtain ⟨q, hq, c'⟩ := (hk2 k).mp hk
          exact hm ((hk2 p).mpr ⟨q, hq, c'.trans c.symm⟩)
      generalize hF : (List.map ((fun r => List.map D.int r) ∘ cls) (List.filter least pre)) = F
      refine whileX S.length (fun m Γ => ∃ ks' piece, ∃ at' : Nat, ∃ x7, Bf es S ks p ks' piece ∧ at' ≤ piece.length ∧ (∀ i, i < at' → ∀ v, piece[i]? = some v → ∀ w ∈ S, Adj es v w → w ∈ piece) ∧ m + at' = S.length ∧
        Γ = [.sh (encR rows), .sh (encI S), .oll F, .ok (setD ks'), .sh (.int p), .ol (piece.map D.int), .sh (.int at'), x7]) (by omega) ⟨_, _, 0, x7, b0, by simp, by simp, by simp, rfl⟩ ?_ ?_
      · rintro m Γ ⟨ks', piece, at', x7, b, h1, h2, h3, rfl⟩
        by_cases hlt' : at' < piece.length
        case neg => exact .inl (by simp; omega)
        refine .inr ⟨by simp; omega, ?_⟩
        have hpl := nodup_sub_len b.nd fun x hx => (b.con x hx).right
        obtain ⟨v, hv⟩ : ∃ v, piece[at']? = some v := ⟨_, List.getElem?_eq_getElem hlt'⟩
        have hvp : v ∈ piece := List.mem_of_getElem? hv
        obtain ⟨h4, r, h5, h6⟩ := hr v (b.con v hvp).right
        have e1 : atI (piece.map D.int) (at' : Int) = some (.int v) := atI_nat (by rw [List.getElem?_map, hv]; rfl)
        have e2 : atI (rows.map encI) v = some (encI r) := by
          obtain ⟨k, rfl⟩ : ∃ k : Nat, v = k := ⟨v.toNat, by omega⟩
          exact atI_nat (by rw [List.getElem?_map]; simp at h5; rw [h5]; rfl)
        simp [e1, e2]
        refine loopX D.int (fun pre2 Γ => ∃ ks' piece' t x7, Bf es S ks p ks' piece' ∧ piece' = piece ++ t ∧ (∀ w ∈ pre2, w ∈ S → w ∈ piece') ∧
          Γ = [.sh (encR rows), .sh (encI S), .oll F, .ok (setD ks'), .sh (.int p), .ol (piece'.map D.int), .sh (.int at'), x7]) r ⟨ks', piece, [], x7, b, by simp, by simp, rfl⟩ ?_ ?_
        · rintro pre2 w post2 Γ hw ⟨ks2, piece2, t, x7, b2, e3, h7, rfl⟩
          have hwr : w ∈ r := by rw [hw]; simp
          by_cases h8 : w ∈ S
          case neg =>
            simp [h8]
            refine ⟨ks2, piece2, b2, ⟨t, e3⟩, fun u hu hS => ?_, rfl, rfl⟩
            rcases hu with z | z
            · exact h7 u z hS
            · subst z; exact absurd hS h8
          by_cases h9 : w ∈ ks2
          case pos =>
            have hc : Con es S p w := (b.con v hvp).step ((h6 w h8).mp hwr) h8
            have : w ∈ piece2 := by
              rcases (b2.met w).mp h9 with z | z
              · exact absurd z (b2.apart w hc)
              · exact z
            simp [h8, lk_setD, h9]
            refine ⟨ks2, piece2, b2, ⟨t, e3⟩, fun u hu hS => ?_, rfl, rfl⟩
            rcases hu with z | z
            · exact h7 u z hS
            · subst z; exact this
          have hl1 : (setD ks2).length < 1000000 := by
            rw [setD_len]
            have := nodup_sub_len b2.knd b2.ksub
            omega
          have hl2 : piece2.length < 1000000 := by
            have := nodup_sub_len b2.nd fun x hx => (b2.con x hx).right
            omega
          have b3 := b2.add (v := v) (by rw [e3]; simp [hvp]) ((h6 w h8).mp hwr) h8 h9
          simp [h8, lk_setD, h9, hl1, hl2, pt_setD h9]
          refine ⟨_, _, b3, ⟨t ++ [w], by rw [e3]; simp⟩, fun u hu hS => ?_, rfl, by simp⟩
          rcases hu with z | z
          · simp [h7 u z hS]
          · subst z; simp
        · rintro Γ ⟨ks2, piece2, t, x7, b2, e3, h7, rfl⟩
          simp
          refine ⟨m - 1, by omega, ks2, piece2, b2, at' + 1, by rw [e3]; simp; omega, fun i hi u hu w hw ha => ?_, by omega, rfl, rfl, by simp⟩
          by_cases hi2 : i < at'
          · rw [e3, List.getElem?_append_left (by omega)] at hu
            have := h2 i hi2 u hu w hw ha
            rw [e3]; simp [this]
          · have : i = at' := by omega
            subst this
            rw [e3, List.getElem?_append_left (by omega), hv] at hu
            cases hu
            exact h7 w ((h6 w hw).mpr ha) hw
      · rintro m Γ ⟨ks', piece, at', x7, b, h1, h2, h3, rfl⟩ hc
        have he : at' = piece.length := by simp at hc; omega
        subst he
        have hd := b.done fun v hv w hw ha => by
          obtain ⟨i, hi⟩ := List.mem_iff_getElem?.mp hv
          exact h2 i (List.getElem?_eq_some_iff.mp hi).1 v hi w hw ha
        have hcls : srt piece = cls p := sorted_eq (srt_sorted _) ((srt_sorted S).filter _) (srt_nodup b.nd) (List.Pairwise.filter _ (srt_nodup nd)) fun x => by
          simp [cls, mem_srt, hd]
          exact fun c => c.right
        have hFl : F.length < 1000000 := by
          rw [← hF, List.length_map]
          have h1 : (pre.filter least).length ≤ pre.length := List.length_filter_le _ _
          have h2 := congrArg List.length hp
          rw [(srt_perm S).length_eq] at h2
          simp at h2; omega
        simp [hFl]
        refine ⟨ks', b.knd, fun k => ?_, ?_, rfl⟩
        · rw [b.met, hk2, hd]
        · simp [hll, hcls]
  · rintro Γ ⟨ks, x4, x5, x6, x7, hk1, hk2, rfl⟩
    simp [comps, least, cls]
end B

/-! SW: webs. -/
namespace B
open PySem PySem.Spec PyProof.Rows L2 DL
theorem g_is_tie_P {p : Int × Int} {n : Int} : g_is_tie [encP p, .int n] = .ok (.bl (decide (0 ≤ p.1 ∧ p.1 < p.2 ∧ p.2 < n))) := by
  unfold g_is_tie; rw [runD_eq]; unfold m_is_tie
  obtain ⟨a, b⟩ := p
  by_cases h1 : 0 ≤ a <;> by_cases h2 : a < b <;> by_cases h3 : b < n <;> simp [encP, List.replicate, h1, h2, h3]
def setT (ks : Ties) : List (List Int × D) := ks.map fun p => ([p.1, p.2], D.bl true)
theorem lk_setT (ks : Ties) (a b : Int) : lk (setT ks) [a, b] = if (a, b) ∈ ks then some (.bl true) else none := by
  induction ks with
  | nil => rfl
  | cons p r ih =>
    show lk (([p.1, p.2], D.bl true) :: setT r) [a, b] = _
    rw [lk_cons, ih]
    by_cases h : p = (a, b)
    · subst h; simp
    · have h1 : ¬ [p.1, p.2] = [a, b] := fun z => h (by simp at z; exact Prod.ext z.1 z.2)
      have : ¬ (a, b) = p := fun z => h z.symm
      simp only [if_neg h1, List.mem_cons, this, false_or]
theorem pt_setT {ks : Ties} {a b : Int} (h : (a, b) ∉ ks) : pt (setT ks) [a, b] (.bl true) = setT (ks ++ [(a, b)]) := by
  unfold pt
  rw [lk_setT, if_neg h]
  simp [setT]
theorem g_need_web_eq {n : Int} {es : Ties} (h : Web n es) : g_need_web [.int n, encT es] = .ok .non := by
  unfold g_need_web; rw [runD_eq]; unfold m_need_web
  have h1 := h.lo
  have h2 := h.hi
  simp [List.replicate, h1, h2]
  obtain ⟨Γ, e, x, rfl⟩ : ∃ Γ', loopF (bN 3) _ (es.map encP) _ = .nx Γ' ∧ ∃ x, Γ' = [.sh (.int n), .sh (encT es), .ot (setT es), x] :=
    loop_all (i := 3) (s := (sSeq (sIf (bOr (bNot (tst (eCall g_is_tie (aCons (eVar 3) (aCons (eVar 0) aNil))))) (tst (eDin 2 (eVar 3)))) (sExc "BadWeb") sNil) (sDput 2 (eVar 3) (eC (.bl true))))) (Γ := [.sh (.int n), .sh (encT es), .ot [], .no]) encP (fun pre Γ => ∃ x, Γ = [.sh (.int n), .sh (encT es), .ot (setT pre), x]) es ⟨_, rfl⟩ (by
      rintro pre p post Γ hp ⟨x, rfl⟩
      have hok := h.ok p (by rw [hp]; simp)
      have hn : p ∉ pre := by
        have := h.nd
        rw [hp] at this
        exact fun z => (List.nodup_append.mp this).2.2 p z p (by simp) rfl
      have hl : (setT pre).length < 1000000 := by
        have h1 := h.len
        have h2 := congrArg List.length hp
        simp at h2
        simp [setT]; omega
      obtain ⟨a, b⟩ := p
      have hd : dLook (.ot (setT pre)) (encP (a, b)) = some none := by
        show dLook (.ot (setT pre)) (.tup [.int a, .int b]) = _
        rw [look_t2, lk_setT, if_neg hn]
      have hput : putO 2 (.ot (setT pre)) (some (encP (a, b))) (some (.bl true)) [.sh (.int n), .sh (encT es), .ot (setT pre), .sh (encP (a, b))] = .nx [.sh (.int n), .sh (encT es), .ot (setT (pre ++ [(a, b)])), .sh (encP (a, b))] := by
        show putO 2 (.ot (setT pre)) (some (.tup [.int a, .int b])) _ _ = _
        rw [putO_t2, if_pos hl, pt_setT hn]; rfl
      simp [g_is_tie_P, hok, hd, hput])
  rw [e]; rfl
theorem near_get {n : Int} {es : Ties} (h : Web n es) {v : Int} (h0 : 0 ≤ v) (h1 : v < n) : (near n es)[v.toNat]? = some (nb es v) := by
  unfold near
  rw [List.getElem?_map, List.getElem?_range (by omega)]
  simp [Int.toNat_of_nonneg h0]
theorem g_near_of_eq {n : Int} {es : Ties} (h : Web n es) : g_near_of [.int n, encT es] = .ok (encR (near n es)) := by
  unfold g_near_of
  rw [runD_of (m_near_of_eq h)]
  simp [List.map_map, Function.comp_def]
theorem gO_near_of_eq {n : Int} {es : Ties} (h : Web n es) : gO_near_of [.int n, encT es] = some (.oll ((near n es).map fun r => r.map D.int)) := runO_of (m_near_of_eq h)
/-- points of the web -/
structure Pts (n : Int) (S : List Int) : Prop where
  nd : S.Nodup
  ok : ∀ v ∈ S, 0 ≤ v ∧ v < n
theorem Pts.len {n : Int} {S : List Int} (h : Pts n S) : S.length ≤ n.toNat := by
  have := nodup_sub_len (ys := (List.range n.toNat).map fun (k : Nat) => (k : Int)) h.nd fun x hx => by
    obtain ⟨h0, h1⟩ := h.ok x hx
    exact List.mem_map.mpr ⟨x.toNat, by simp; omega, by omega⟩
  simpa using this
theorem near_hr {n : Int} {es : Ties} {S : List Int} (h : Web n es) (p : Pts n S) : ∀ v ∈ S, 0 ≤ v ∧ ∃ r, (near n es)[v.toNat]? = some r ∧ ∀ w ∈ S, (w ∈ r ↔ Adj es v w) := fun v hv => by
  obtain ⟨h0, h1⟩ := p.ok v hv
  exact ⟨h0, _, near_get h h0 h1, fun w _ => mem_nb⟩
theorem m_parts_eq {n : Int} {es : Ties} {S : List Int} (h : Web n es) (p : Pts n S) : m_parts_among ([encR (near n es), encI S].map Sl.sh ++ List.replicate 6 .no) = .rto (.oll ((comps es S).map fun r => r.map D.int)) :=
  m_parts_among_eq p.nd (by have := p.len; have := h.hi; omega) (near_hr h p)
theorem g_parts_among_eq {n : Int} {es : Ties} {S : List Int} (h : Web n es) (p : Pts n S) : g_parts_among [encR (near n es), encI S] = .ok (encR (comps es S)) := by
  unfold g_parts_among
  rw [runD_of (m_parts_eq h p)]
  simp [List.map_map, Function.comp_def]
theorem gO_parts_among_eq {n : Int} {es : Ties} {S : List Int} (h : Web n es) (p : Pts n S) : gO_parts_among [encR (near n es), encI S] = some (.oll ((comps es S).map fun r => r.map D.int)) := runO_of (m_parts_eq h p)
theorem m_beside_eq {n : Int} {es : Ties} (h : Web n es) : m_beside ([.int n, encT es].map Sl.sh ++ List.replicate 0 .no) = .rto (.oll ((near n es).map fun r => r.map D.int)) := by
  unfold m_beside
  simp [g_need_web_eq h, gO_near_of_eq h]
theorem g_beside_eq {n : Int} {es : Ties} (h : Web n es) : g_beside [.int n, encT es] = .ok (encR (near n es)) := by
  unfold g_beside
  rw [runD_of (m_beside_eq h)]
  simp [List.map_map, Function.comp_def]
theorem gO_beside_eq {n : Int} {es : Ties} (h : Web n es) : gO_beside [.int n, encT es] = some (.oll ((near n es).map fun r => r.map D.int)) := runO_of (m_beside_eq h)
/-- the points of a web, some gone -/
def ptsOf (n : Int) : List Int := (List.range n.toNat).map fun (k : Nat) => (k : Int)
theorem rng_pts (n : Int) : rng 0 n.toNat = (ptsOf n).map D.int := by
  unfold rng ptsOf
  rw [List.map_map]
  refine List.map_congr_left fun k _ => by simp
theorem mem_ptsOf {n v : Int} : v ∈ ptsOf n ↔ 0 ≤ v ∧ v < n := by
  unfold ptsOf
  rw [List.mem_map]
  constructor
  · rintro ⟨k, hk, rfl⟩; simp at hk; omega
  · rintro ⟨h0, h1⟩; exact ⟨v.toNat, by simp; omega, by omega⟩
theorem ptsOf_nodup (n : Int) : (ptsOf n).Nodup := by
  unfold ptsOf
  exact (List.nodup_range).map (f := fun (k : Nat) => (k : Int)) fun a b z => by omega
theorem pts_fil (n : Int) (p : Int → Bool) : Pts n ((ptsOf n).filter p) := ⟨List.Pairwise.filter _ (ptsOf_nodup n), fun v hv => mem_ptsOf.mp (List.mem_filter.mp hv).1⟩
theorem pts_all (n : Int) : Pts n (ptsOf n) := ⟨ptsOf_nodup n, fun v hv => mem_ptsOf.mp hv⟩
theorem m_pieces_eq {n : Int} {es : Ties} {gone : List Int} (h : Web n es) : m_pieces ([.int n, encT es, encI gone].map Sl.sh ++ List.replicate 1 .no) = .rto (.oll ((comps es ((ptsOf n).filter fun v => !decide (v ∈ gone))).map fun r => r.map D.int)) := by
  unfold m_pieces
  have h1 := h.hi
  have h2 := h.lo
  have h3 : n ≤ 1000000 ∧ -1000000 ≤ n := by omega
  simp [g_need_web_eq h, List.replicate, g_near_of_eq h, h3, rng_pts]
  rw [if_pos (by unfold ptsOf; simp; omega)]
  rw [compF_fil D.int fun v => !decide (v ∈ gone)]
  rotate_left
  · intro v _; simp
  · intro v _; simp
  simp [gO_parts_among_eq h (pts_fil n _)]
end B

/-! L02: the law k02, plain. -/
namespace B
open PySem PySem.Spec PyProof.Rows L2 DL
theorem tieAB_ok {a b n : Int} (h1 : 0 ≤ a) (h2 : a < n) (h3 : 0 ≤ b) (h4 : b < n) (hne : (if b < a then b else a) ≠ (if b > a then b else a)) : 0 ≤ (if b < a then b else a) ∧ (if b < a then b else a) < (if b > a then b else a) ∧ (if b > a then b else a) < n := by
  grind
theorem tieOf_ok {c n : Int} (h : 0 < n) (hne : (tieOf c n).1 ≠ (tieOf c n).2) : 0 ≤ (tieOf c n).1 ∧ (tieOf c n).1 < (tieOf c n).2 ∧ (tieOf c n).2 < n :=
  tieAB_ok (Int.emod_nonneg c (show n ≠ 0 by omega)) (Int.emod_lt_of_pos c h) (Int.emod_nonneg _ (show n ≠ 0 by omega)) (Int.emod_lt_of_pos _ h) hne
theorem tiesOf_inv {n : Int} (h : 0 < n) : ∀ (cs : List Int) (made : Ties), (made.Nodup ∧ ∀ p ∈ made, 0 ≤ p.1 ∧ p.1 < p.2 ∧ p.2 < n) → ((cs.foldl (tieStep n) made).Nodup ∧ ∀ p ∈ cs.foldl (tieStep n) made, 0 ≤ p.1 ∧ p.1 < p.2 ∧ p.2 < n)
  | [], _, h => h
  | c :: cs, made, hm => by
    rw [List.foldl_cons]
    refine tiesOf_inv h cs _ ?_
    unfold tieStep
    split
    · rename_i hc
      refine ⟨List.nodup_append.mpr ⟨hm.1, by simp, fun x hx y hy z => ?_⟩, fun p hp => ?_⟩
      · simp at hy; subst hy z; exact hc.2 hx
      · rcases List.mem_append.mp hp with z | z
        · exact hm.2 p z
        · simp at z; subst z; exact tieOf_ok h hc.1
    · exact hm
theorem web_of {cs : List Int} {n : Int} (h1 : 1 ≤ n) (h2 : n ≤ 10) (hl : cs.length ≤ 1000) : Web n (tiesOf cs n) := by
  have := tiesOf_inv (n := n) (by omega) cs [] ⟨by simp, by simp⟩
  have hl2 := foldl_tie_len n cs []
  exact ⟨h1, h2, this.1, by unfold tiesOf; simp at hl2; omega, this.2⟩
theorem cutD_map {α β : Type} (f : α → β) (xs : List α) (lo hi : Option Int) : DL.cutD (xs.map f) lo hi = (DL.cutD xs lo hi).map f := by
  unfold DL.cutD; simp
theorem cutD_len {α : Type} (xs : List α) (a b : Nat) : (DL.cutD xs (some (a : Int)) (some (b : Int))).length ≤ b - a := by
  unfold DL.cutD
  rw [HT.sIx_nat, HT.sIx_nat]
  simp; omega
@[simp] theorem fSl_ap (f : En → Option D) (lo hi : EO) (Γ : En) : fSl f lo hi Γ = (f Γ).bind fun d => (lsOf d).bind fun xs => (lo Γ).bind fun l => (hi Γ).map fun h => DL.cutD xs l h := rfl
@[simp] theorem oNo_ap (Γ : En) : oNo Γ = some none := rfl
@[simp] theorem oE_ap (f : En → Option D) (Γ : En) : oE f Γ = (f Γ).bind fun d => (isInt d).map some := rfl
@[simp] theorem lsOf_l (xs : List D) : lsOf (.lst xs) = some xs := rfl
@[simp] theorem lsOf_s (ns : List Int) : lsOf (.scr ns) = some (ns.map D.int) := rfl
@[simp] theorem fRg_ap (f : En → Option D) (Γ : En) : fRg f Γ = (f Γ).bind fun d => (isInt d).bind fun n => if 0 ≤ n ∧ n ≤ 1000000 then some (rng 0 n.toNat) else none := rfl
theorem eqv_2 (a b c d : D) : eqv (.lst [a, b]) (.lst [c, d]) = (eqv a c && eqv b d) := by
  show PyData.eqv (.list (toPyL [a, b])) (.list (toPyL [c, d])) = _
  simp [toPyL, PyData.eqv, PyData.eqvAll, eqv]
theorem toPyL_app (xs ys : List D) : toPyL (xs ++ ys) = toPyL xs ++ toPyL ys := by rw [toPyL_map, toPyL_map, toPyL_map, List.map_append]
theorem all_tt {α : Type} (xs : List α) : (xs.all fun _ => true) = true := by induction xs <;> simp_all
/-- the rows seen are the rows due -/
theorem g_law_rows_eq (rs ds : List (List Int)) (hs : ∀ r ∈ ds, r.length ≤ 1000000) : g_law_rows [encR rs, encR ds] = .ok (.bl (decide (rs = ds))) := by
  unfold g_law_rows; rw [runD_eq]; unfold m_law_rows
  by_cases h : rs = ds
  case neg => simp [List.replicate, h]
  simp [List.replicate, h]
  refine loopR encI (fun pre Γ => ∃ x y, Γ = [.sh (encR ds), .sh (encR ds), x, y]) ds ⟨_, _, rfl⟩ ?_ ?_
  · rintro pre r post Γ hp ⟨x, y, rfl⟩
    have hl := hs r (by rw [hp]; simp)
    simp [hl]
    rw [compF_all D.int D.bl fun _ => true]
    rotate_left
    · intro v _; simp
    simp [-List.map_map, all_tt]
  · rintro Γ ⟨x, y, rfl⟩
    rfl
theorem nbs_tie {n : Int} {es : Ties} (h : ∀ p ∈ es, 0 ≤ p.1 ∧ p.1 < p.2 ∧ p.2 < n) (v : Int) : (es.filter fun p => decide (v = p.1 ∨ v = p.2)).map (fun p => p.1 + p.2 - v) = nbs es v := by
  induction es with
  | nil => rfl
  | cons p r ih =>
    have ih := ih fun q hq => h q (by simp [hq])
    have hp := h p (by simp)
    have e : nbs (p :: r) v = ((if p.1 = v then [p.2] else []) ++ (if p.2 = v then [p.1] else [])) ++ nbs r v := by unfold nbs; rw [List.flatMap_cons]
    rw [e, List.filter_cons, ← ih]
    by_cases h1 : p.1 = v
    · subst h1
      have : ¬ p.2 = p.1 := by omega
      simp [this]
      omega
    · have h1' : ¬ v = p.1 := fun z => h1 z.symm
      by_cases h2 : p.2 = v
      · subst h2
        simp [h1, h1']
      · have h2' : ¬ v = p.2 := fun z => h2 z.symm
        simp [h1, h1', h2, h2']
theorem gO_pieces_eq {n : Int} {es : Ties} {gone : List Int} (h : Web n es) : gO_pieces [.int n, encT es, encI gone] = some (.oll ((comps es ((ptsOf n).filter fun v => !decide (v ∈ gone))).map fun r => r.map D.int)) := runO_of (m_pieces_eq h)
theorem g_pieces_eq {n : Int} {es : Ties} {gone : List Int} (h : Web n es) : g_pieces [.int n, encT es, encI gone] = .ok (encR (comps es ((ptsOf n).filter fun v => !decide (v ∈ gone)))) := by
  unfold g_pieces
  rw [runD_of (m_pieces_eq h)]
  simp [List.map_map, Function.comp_def]
@[simp] theorem rows_enc (rs : List (List Int)) : (rs.map fun r => r.map D.int).map D.lst = rs.map encI := by simp
theorem near_len {n : Int} {es : Ties} (h : Web n es) : ∀ r ∈ near n es, r.length ≤ 1000000 := fun r hr => by
  obtain ⟨v, _, rfl⟩ := List.mem_map.mp hr
  have h1 := nbs_len es v
  have h2 := h.len
  unfold nb
  rw [(srt_perm _).length_eq]; omega
theorem comps_len {es : Ties} {S : List Int} (h : S.length ≤ 1000) : ∀ r ∈ comps es S, r.length ≤ 1000000 := fun r hr => by
  classical
  obtain ⟨v, _, rfl⟩ := List.mem_map.mp hr
  have := List.length_filter_le (fun q => decide (Con es S v q)) (srt S)
  rw [(srt_perm _).length_eq] at this
  omega
theorem comps_n {es : Ties} {S : List Int} : (comps es S).length ≤ S.length := by
  classical
  unfold comps
  rw [List.length_map]
  have := List.length_filter_le (fun p => decide (∀ q ∈ S, Con es S p q → p ≤ q)) (srt S)
  rw [(srt_perm _).length_eq] at this
  exact this
theorem law_k02 (ns : List Int) : g_law_k02 [.scr ns] = .ok (.bl true) := by
  unfold g_law_k02; rw [runD_eq]; unfold m_law_k02
  have hc0 := g_law_cell_at_eq ns 0
  have hc3 := g_law_cell_at_eq ns 3
  simp at hc0 hc3
  obtain ⟨n, hn⟩ : ∃ n, n = 1 + cellAt ns 0 % 10 := ⟨_, rfl⟩
  have hn1 : 1 ≤ n ∧ n ≤ 10 := by omega
  obtain ⟨cs, hcs⟩ : ∃ cs, cs = DL.cutD ns (some 4) (some 24) := ⟨_, rfl⟩
  have hcl : cs.length ≤ 20 := by rw [hcs]; exact cutD_len ns 4 24
  have hw : Web n (tiesOf cs n) := web_of (by omega) (by omega) (by omega)
  have ht := g_law_ties_eq (cs := cs) (n := n) (by omega) (by omega) (by omega)
  simp [List.replicate, hc0, hc3, ← hn, cutD_map, ← hcs, ht]
  obtain ⟨m, hm⟩ : ∃ m, m = cellAt ns 3 % 6 := ⟨_, rfl⟩
  have hm1 : 0 ≤ m ∧ m ≤ 5 := by omega
  rw [← hm]
  have hm2 : m ≤ 1000000 ∧ -1000000 ≤ m := by omega
  have hn2 : n ≤ 1000000 ∧ -1000000 ≤ n := by omega
  simp only [hm2, rng_pts]
  simp
  refine loopR D.int (fun pre Γ => ∃ gone x4, gone.length = pre.length ∧ Γ = [.sh (.scr ns), .sh (.int n), .sh (encT (tiesOf cs n)), .ol (gone.map D.int), x4, .no, .no, .no, .no, .no, .no, .no]) (ptsOf m) ⟨[], _, rfl, rfl⟩ ?_ ?_
  · rintro pre k post Γ hp ⟨gone, x4, hg, rfl⟩
    have hk := mem_ptsOf.mp (show k ∈ ptsOf m by rw [hp]; simp)
    have hl : gone.length < 1000000 := by
      rw [hg]
      have := congrArg List.length hp
      have h2 := (pts_all m).len
      simp at this; omega
    obtain ⟨j, hj⟩ : ∃ j : Nat, (1 + k % 3 : Int) = j := ⟨(1 + k % 3).toNat, by omega⟩
    have hc := g_law_cell_at_eq ns j
    obtain ⟨q, hq, hq2⟩ : ∃ q : Int, 0 < q ∧ q < 2 ^ 64 ∧ atI [D.int 1, D.int 7, D.int 49, D.int 343, D.int 2401] k = some (.int q) := by
      rcases (show k = 0 ∨ k = 1 ∨ k = 2 ∨ k = 3 ∨ k = 4 by omega) with rfl | rfl | rfl | rfl | rfl
      · exact ⟨1, by decide, by decide, rfl⟩
      · exact ⟨7, by decide, by decide, rfl⟩
      · exact ⟨49, by decide, by decide, rfl⟩
      · exact ⟨343, by decide, by decide, rfl⟩
      · exact ⟨2401, by decide, by decide, rfl⟩
    have hn3 : 0 < n + 3 := by omega
    simp at hq2
    simp [hj, hc, hq, hq2, hn3, hl]
    exact ⟨gone ++ [cellAt ns j / q % (n + 3) - 1], by simp [hg], by simp⟩
  rintro Γ ⟨gone, x4, hg, rfl⟩
  have hgl : gone.length ≤ 5 := by rw [hg]; have := (pts_all m).len; omega
  simp [hn2, rng_pts]
  refine loopR D.int (fun pre Γ => ∃ x6, Γ = [.sh (.scr ns), .sh (.int n), .sh (encT (tiesOf cs n)), .ol (gone.map D.int), x4, .ol (pre.map fun v => encI (nb (tiesOf cs n) v)), x6, .no, .no, .no, .no, .no]) (ptsOf n) ⟨_, rfl⟩ ?_ ?_
  · rintro pre v post Γ hp ⟨x6, rfl⟩
    have hl : pre.length < 1000000 := by
      have := congrArg List.length hp
      have h2 := (pts_all n).len
      simp at this; omega
    have hel := hw.len
    have hel2 : (tiesOf cs n).length ≤ 1000000 := by omega
    simp [hl, hel2]
    rw [compF_map (enc := encP) (dec := D.int) (p := fun p => decide (v = p.1 ∨ v = p.2)) (h := fun p => p.1 + p.2 - v)]
    rotate_left
    · intro p _; simp
    · intro p _ _; simp
    rw [nbs_tie hw.ok]
    simp [hl]
    rfl
  rintro Γ ⟨x6, rfl⟩
  have hpl : (ptsOf n).length ≤ 1000000 := by have := (pts_all n).len; omega
  have hne : (ptsOf n).map (fun v => encI (nb (tiesOf cs n) v)) = (near n (tiesOf cs n)).map encI := by simp [near, ptsOf]
  rw [hne]
  simp [hn2, rng_pts, hpl, -List.map_map]
  rw [compF_fil D.int fun v => !decide (v ∈ gone)]
  rotate_left
  · intro v _; simp
  · intro v _; simp
  obtain ⟨S, hS⟩ : ∃ S, S = (ptsOf n).filter fun v => !decide (v ∈ gone) := ⟨_, rfl⟩
  have hP : Pts n S := by rw [hS]; exact pts_fil n _
  have hSl := hP.len
  have hA := g_law_among_eq (es := tiesOf cs n) hP.nd (by omega)
  have hA2 := g_law_among_eq (es := tiesOf cs n) (ptsOf_nodup n) (by have := (pts_all n).len; omega)
  have hB := gO_beside_eq hw
  have hB2 := g_beside_eq hw
  have hC := gO_pieces_eq (gone := gone) hw
  have hC2 := g_pieces_eq (gone := gone) hw
  have hC3 := g_pieces_eq (gone := []) hw
  rw [← hS] at hC hC2 ⊢
  generalize hes : tiesOf cs n = es at *
  have hR1 := g_law_rows_eq (near n es) (near n es) (near_len hw)
  have hR2 := g_law_rows_eq (comps es S) (comps es S) (comps_len (by omega))
  have hR3 := g_law_rows_eq (comps es (ptsOf n)) (comps es (ptsOf n)) (comps_len (by have := (pts_all n).len; omega))
  have hfil : (ptsOf n).filter (fun v => !decide (v ∈ ([] : List Int))) = ptsOf n := List.filter_eq_self.mpr fun _ _ => by simp
  rw [hfil] at hC3
  have hH : dNe (.lst [encT es, encI gone]) (.lst [encT es, encI gone]) = some (.bl false) := by
    rw [dNe_ok _ _ (by simp [okN_T 6, okN_I 7]) (by simp [okN_T 6, okN_I 7]), eqv_2, eqv_T, eqv_L]; simp
  obtain ⟨r0, rest, hnr⟩ : ∃ r0 rest, near n es = r0 :: rest := by
    cases e : near n es with
    | nil => have := congrArg List.length e; simp [near] at this; omega
    | cons a b => exact ⟨a, b, rfl⟩
  have hr0 : r0.length < 1000000 := by
    have := nbs_len es 0
    have h2 := hw.len
    have h3 : (near n es)[(0:Int).toNat]? = some (nb es 0) := near_get hw (by omega) (by omega)
    rw [hnr] at h3
    simp at h3
    rw [h3]; unfold nb; rw [(srt_perm _).length_eq]; omega
  have hcn := comps_n (es := es) (S := S)
  have hcn2 : (comps es S).length < 1000000 := by omega
  have hC4 : g_pieces [.int n, encT es, .lst []] = .ok (encR (comps es (ptsOf n))) := hC3
  have hn0 : 0 ≤ n ∧ n ≤ 1000000 := by omega
  have hM1 : ∀ (X : D) (Γ : En), owAppO 10 [0, 0] (.ow 3 (.lst [.lst ((near n es).map encI), X])) (some (.sh (.int n))) Γ = .nx (Γ.set 10 (.ow 3 (.lst [.lst (.lst (r0.map D.int ++ [.int n]) :: rest.map encI), X]))) := fun X Γ => by
    rw [hnr]
    simp [owAppO, subD, putD, hr0]
  have hM2 : ∀ (X : D) (Γ : En), owAppO 10 [1] (.ow 3 (.lst [X, .lst ((comps es S).map encI)])) (some (.ol [.int n])) Γ = .nx (Γ.set 10 (.ow 3 (.lst [X, .lst ((comps es S).map encI ++ [.lst [.int n]])]))) := fun X Γ => by
    simp [owAppO, subD, putD, hcn2]
  simp [-List.map_map, hA, hB, hC, hR1, hR2, hH, hC4, hn0, rng_pts, hA2, hR3, hM1, hM2, hB2, hC2]
  have hcn3 : (comps es S).length ≤ 999999 := by omega
  have hE : (comps es S).map encI ++ [D.lst [D.int n]] = (comps es S ++ [[n]]).map encI := by simp
  rw [if_pos hcn3, hE]
  simp [-List.map_append]
end B

/-! DE: the end. -/
namespace B
open PySem PySem.Spec PyProof.Rows L2 DL
theorem _root_.L2.FnOk.ca {P : Program} {w : World} {K : Fr} {mg : Str → Option Value} {base : Heap} {CX : CXT} {k n : Nat} {f : Addr} {fd : FuncData} {ps : List Str} {ca ca' : Str → Addr} {g : List D → Res} (F : FnOk P w K mg base CX k f fd ps (spD K ca false n g)) : FnOk P w K mg base CX k f fd ps (spD K ca' false n g) :=
  F.imp fun vs H Q E ⟨h1, Hf, ds, h2, h3, h4⟩ => ⟨h1, Hf, ds, h2, h3, by
    cases e : g ds with
    | ok d => rw [e] at h4; exact h4
    | exc c => rw [e] at h4; cases h4.1
    | bad => rw [e] at h4; exact h4.elim⟩
theorem walkD {l : PySem.W.OpenLaw} {q : Program} {loose : List Str} {XP : (Str → Option Value) → Heap → Prop} {YP : World → Heap → Prop} {d : DefRec} {K : Params → PySem.W.Frag} {k : Nat} {x : Str} {ca : Str → Addr} (g : List D → Res) (hgood : ∀ ns : List Int, g [.scr ns] = .ok (.bl true)) (hk : k ≤ 40) (hn : l.most = some 63) (hdf : d.params.defaults = [])
    (hY : ∀ (w : World) (h : Heap), YP w h → (K w.params).In h)
    (F : ∀ (w : World) (mg : Str → Option Value) (fa : Addr) (h : Heap), (K w.params).In h → h.Ns mainGlobals mg → mg d.name = some (.ref fa) →
      ∃ fd : FuncData, (∀ (s : Shared) (u : Value), BindsTo s fd ⟨[u], []⟩ [(x, u)]) ∧ ∀ base : Heap, (K w.params).In base → base.Ns mainGlobals mg → FnOk l.prog w (K w.params) mg base CX0 k fa fd [x] (spD (K w.params) ca false 1 g)) :
    PySem.W.WalkO q loose XP YP l.row.toRowW d [] (fun f vs => PySem.call f vs) :=
  L2.walk_of (n := 63) (k := k) (x := x) (CX := fun _ => CX0) (sp := fun w => spD (K w.params) ca false 1 g) hn (by decide) hdf ((show Room 40 callerA from ⟨rfl, by decide, by decide⟩).mono hk) hY F
    (fun w H a ns hl _ hS => ⟨rfl, H, [.scr ns], fun _ _ z => z, ⟨_, _, rfl, ⟨a, rfl, hS⟩, rfl⟩, by rw [hgood]; exact fun v H' Hf' _ r => r⟩) fun _ _ _ _ _ z => z
end B

/-! L01: the law k01, plain. -/
namespace B
open PySem PySem.Spec PyProof.Rows L2 DL
def isTie? (n : Int) : D → Bool
  | .tup [.int i, .int j] => decide (0 ≤ i) && decide (i < j) && decide (j < n)
  | _ => false
theorem isTie?_P (n : Int) (p : Int × Int) : isTie? n (encP p) = decide (0 ≤ p.1 ∧ p.1 < p.2 ∧ p.2 < n) := by
  unfold encP isTie?
  simp [Bool.and_assoc]
theorem g_is_tie_eq (d : D) (n : Int) : g_is_tie [d, .int n] = .ok (.bl (isTie? n d)) := by
  cases d with
  | tup xs =>
    match xs with
    | [] => unfold g_is_tie; rw [runD_eq]; unfold m_is_tie; simp [isTie?]
    | [x] => unfold g_is_tie; rw [runD_eq]; unfold m_is_tie; simp [isTie?]
    | [x, y] =>
      cases x with
      | int i =>
        cases y with
        | int j =>
          have := g_is_tie_P (p := (i, j)) (n := n)
          rw [show (D.tup [D.int i, D.int j]) = encP (i, j) from rfl, this, isTie?_P]
        | _ => unfold g_is_tie; rw [runD_eq]; unfold m_is_tie; simp [isTie?, isInt?, List.replicate]
      | _ => unfold g_is_tie; rw [runD_eq]; unfold m_is_tie; simp [isTie?, isInt?, List.replicate]
    | x :: y :: z :: r =>
      unfold g_is_tie; rw [runD_eq]; unfold m_is_tie
      have : ¬ ((r.length : Int) + 1 + 1 + 1 = 2) := by omega
      simp [isTie?, List.replicate, this]
  | _ => rfl
theorem need1 {d t : D} (h : isInt? d = false) : g_need_web [d, t] = .exc "BadWeb" := by
  unfold g_need_web; rw [runD_eq]; unfold m_need_web; simp [h, List.replicate]
theorem need2 {n : Int} {t : D} (h : ¬ (1 ≤ n ∧ n ≤ 10)) : g_need_web [.int n, t] = .exc "BadWeb" := by
  unfold g_need_web; rw [runD_eq]; unfold m_need_web
  by_cases h1 : 1 ≤ n
  · have : ¬ n ≤ 10 := fun z => h ⟨h1, z⟩
    simp [h1, this, List.replicate]
  · simp [h1, List.replicate]
theorem need3 {n : Int} {t : D} (h : isT "list" t = false) : g_need_web [.int n, t] = .exc "BadWeb" := by
  unfold g_need_web; rw [runD_eq]; unfold m_need_web
  by_cases h1 : 1 ≤ n
  · by_cases h2 : n ≤ 10
    · simp [h1, h2, h, List.replicate]
    · simp [h1, h2, List.replicate]
  · simp [h1, List.replicate]
/-- a loop that raises at the first bad one -/
theorem loop_exc {i : Nat} {s : En → Out} {α : Type} (enc : α → D) (I : List α → En → Prop) (xs : List α) (d : D) (rest : List D) (c : Str) (Γ : En) (h0 : I [] Γ)
    (hs : ∀ pre x post Γ, xs = pre ++ x :: post → I pre Γ → ∃ Γ', (s (Γ.set i (.sh (enc x))) = .nx Γ' ∨ s (Γ.set i (.sh (enc x))) = .ct Γ') ∧ I (pre ++ [x]) Γ') (hd : ∀ Γ, I xs Γ → s (Γ.set i (.sh d)) = .exc c) : loopF (bN i) s (xs.map enc ++ d :: rest) Γ = .exc c := by
  have key : ∀ (post pre : List α) (Γ : En), xs = pre ++ post → I pre Γ → loopF (bN i) s (post.map enc ++ d :: rest) Γ = .exc c := by
    intro post
    induction post with
    | nil =>
      intro pre Γ e h
      rw [List.append_nil] at e
      subst e
      rw [List.map_nil, List.nil_append, loopF_N, hd Γ h]; rfl
    | cons x r ih =>
      intro pre Γ e h
      obtain ⟨Γ1, e1, h1⟩ := hs pre x r Γ e h
      rw [List.map_cons, List.cons_append, loopF_N]
      have := ih (pre ++ [x]) Γ1 (by rw [e]; simp) h1
      rcases e1 with e1 | e1 <;> rw [e1] <;> exact this
  exact key xs [] Γ rfl h0
theorem need4 {n : Int} {es : Ties} {d : D} {rest : List D} (h : Web n es) (hd : isTie? n d = false ∨ ∃ p ∈ es, d = encP p) : g_need_web [.int n, .lst (es.map encP ++ d :: rest)] = .exc "BadWeb" := by
  unfold g_need_web; rw [runD_eq]; unfold m_need_web
  have h1 := h.lo
  have h2 := h.hi
  simp [List.replicate, h1, h2]
  rw [loop_exc (i := 3) encP (fun pre Γ => ∃ x, Γ = [.sh (.int n), .sh (.lst (es.map encP ++ d :: rest)), .ot (setT pre), x]) es d rest "BadWeb"]
  · rfl
  · exact ⟨_, rfl⟩
  · rintro pre p post Γ hp ⟨x, rfl⟩
    have hok := h.ok p (by rw [hp]; simp)
    have hn : p ∉ pre := by
      have := h.nd
      rw [hp] at this
      exact fun z => (List.nodup_append.mp this).2.2 p z p (by simp) rfl
    have hl : (setT pre).length < 1000000 := by
      have h1 := h.len
      have h2 := congrArg List.length hp
      simp at h2
      simp [setT]; omega
    obtain ⟨a, b⟩ := p
    have hd : dLook (.ot (setT pre)) (encP (a, b)) = some none := by
      show dLook (.ot (setT pre)) (.tup [.int a, .int b]) = _
      rw [look_t2, lk_setT, if_neg hn]
    have hput : ∀ L, putO 2 (.ot (setT pre)) (some (encP (a, b))) (some (.bl true)) [.sh (.int n), .sh (.lst L), .ot (setT pre), .sh (encP (a, b))] = .nx [.sh (.int n), .sh (.lst L), .ot (setT (pre ++ [(a, b)])), .sh (encP (a, b))] := fun L => by
      show putO 2 (.ot (setT pre)) (some (.tup [.int a, .int b])) _ _ = _
      rw [putO_t2, if_pos hl, pt_setT hn]; rfl
    simp [g_is_tie_P, hok, hd, hput]
  · rintro Γ ⟨x, rfl⟩
    rcases hd with hd | ⟨⟨a, b⟩, hp, rfl⟩
    · simp [g_is_tie_eq, hd]
    · have hok := h.ok (a, b) hp
      have hd : dLook (.ot (setT es)) (encP (a, b)) = some (some (.bl true)) := by
        show dLook (.ot (setT es)) (.tup [.int a, .int b]) = _
        rw [look_t2, lk_setT, if_pos hp]
      simp [g_is_tie_P, hok, hd]
/-! asked by each -/
section
variable {d t : D} (h : g_need_web [d, t] = .exc "BadWeb")
include h
theorem x_beside : g_x_beside [d, t] = .exc "BadWeb" := by unfold g_x_beside; rw [runD_eq]; unfold m_x_beside; simp [h]
theorem x_pieces (a : D) : g_x_pieces [d, t, a] = .exc "BadWeb" := by unfold g_x_pieces; rw [runD_eq]; unfold m_x_pieces; simp [h, List.replicate]
theorem x_is_layout (a : D) : g_x_is_layout [d, t, a] = .exc "BadWeb" := by unfold g_x_is_layout; rw [runD_eq]; unfold m_x_is_layout; simp [h, List.replicate]
theorem x_touch (a b : D) : g_x_touch [d, t, a, b] = .exc "BadWeb" := by unfold g_x_touch; rw [runD_eq]; unfold m_x_touch; simp [h, List.replicate]
theorem x_is_thicket (a : D) : g_x_is_thicket [d, t, a] = .exc "BadWeb" := by unfold g_x_is_thicket; rw [runD_eq]; unfold m_x_is_thicket; simp [h, List.replicate]
theorem x_need_most (a : D) : g_x_need_most [d, t, a] = .exc "BadWeb" := by unfold g_x_need_most; rw [runD_eq]; unfold m_x_need_most; simp [h, List.replicate]
theorem x_least : g_x_least [d, t] = .exc "BadWeb" := by unfold g_x_least; rw [runD_eq]; unfold m_x_least; simp [h, List.replicate]
theorem x_wide (a : D) : g_x_wide [d, t, a] = .exc "BadWeb" := by unfold g_x_wide; rw [runD_eq]; unfold m_x_wide; simp [x_is_layout h, List.replicate]
theorem x_colourings (a b : D) : g_x_colourings [d, t, a, b] = .exc "BadWeb" := by unfold g_x_colourings; rw [runD_eq]; unfold m_x_colourings; simp [x_is_layout h, List.replicate]
theorem x_least_hit (a : D) : g_x_least_hit [d, t, a] = .exc "BadWeb" := by unfold g_x_least_hit; rw [runD_eq]; unfold m_x_least_hit; simp [x_is_thicket h, List.replicate]
theorem x_layout (a : D) : g_x_layout [d, t, a] = .exc "BadWeb" := by unfold g_x_layout; rw [runD_eq]; unfold m_x_layout; simp [x_need_most h, List.replicate]
theorem x_thicket (a : D) : g_x_thicket [d, t, a] = .exc "BadWeb" := by unfold g_x_thicket; rw [runD_eq]; unfold m_x_thicket; simp [x_need_most h, List.replicate]
theorem x_told (a : D) : g_x_told [d, t, a] = .exc "BadWeb" := by unfold g_x_told; rw [runD_eq]; unfold m_x_told; simp [x_layout h, List.replicate]
theorem x_more (w : Int) : g_x_law_more_asked [.int w, d, t] = .exc "BadWeb" := by
  unfold g_x_law_more_asked; rw [runD_eq]; unfold m_x_law_more_asked
  by_cases h7 : w = 7
  · simp [h7, x_layout h]
  by_cases h8 : w = 8
  · simp [h8, x_thicket h]
  by_cases h9 : w = 9
  · simp [h9, x_told h]
  by_cases h10 : w = 10
  · simp [h10, x_least h]
  by_cases h11 : w = 11
  · simp [h11, x_colourings h]
  simp [h7, h8, h9, h10, h11, h]
theorem x_asked (w : Int) : g_x_law_asked [.int w, d, t] = .exc "BadWeb" := by
  unfold g_x_law_asked; rw [runD_eq]; unfold m_x_law_asked
  by_cases h0 : w = 0
  · simp [h0, x_beside h]
  by_cases h1 : w = 1
  · simp [h1, x_pieces h]
  by_cases h2 : w = 2
  · simp [h2, x_is_layout h]
  by_cases h3 : w = 3
  · simp [h3, x_wide h]
  by_cases h4 : w = 4
  · simp [h4, x_touch h]
  by_cases h5 : w = 5
  · simp [h5, x_is_thicket h]
  by_cases h6 : w = 6
  · simp [h6, x_least_hit h]
  simp [h0, h1, h2, h3, h4, h5, h6, x_more h]
theorem refused (w : Int) : g_law_refused [.int w, d, t] = .ok (.str "web value") := by
  unfold g_law_refused; rw [runD_eq]; unfold m_law_refused
  have hu : uWeb "BadWeb" = some (.str "web value") := rfl
  simp [x_asked h, List.replicate]
  rw [tryO_exc _ hu (by simp)]
  rfl
end
/-! what is odd -/
theorem atI_in {α : Type} {xs : List α} {i : Int} (h0 : 0 ≤ i) (h1 : i < xs.length) : ∃ x ∈ xs, atI xs i = some x := by
  obtain ⟨k, rfl⟩ : ∃ k : Nat, i = k := ⟨i.toNat, by omega⟩
  have hk : k < xs.length := by omega
  exact ⟨xs[k], List.getElem_mem hk, atI_nn hk⟩
theorem atI_last {α : Type} {xs : List α} (h : xs ≠ []) : ∃ x ∈ xs, atI xs (-1) = some x := by
  have hl : 0 < xs.length := List.length_pos_iff.mpr h
  have : ixN xs.length (-1) = some (xs.length - 1) := by
    unfold ixN
    rw [if_neg (by decide), if_pos (by omega)]
    congr 1; omega
  refine ⟨xs[xs.length - 1]'(by omega), List.getElem_mem _, ?_⟩
  unfold atI
  rw [this]
  exact List.getElem?_eq_getElem (by omega)
theorem dNe_T (xs ys : Ties) : dNe (encT xs) (encT ys) = some (.bl (!decide (xs = ys))) := by rw [dNe_ok _ _ (okN_T 7 _) (okN_T 7 _), eqv_T]
def Odd (n : Int) (es : Ties) (d : D) : Prop := (isTie? n d = false ∨ ∃ p ∈ es, d = encP p) ∧ okN 8 d = true
theorem odd_pick {n c : Int} {es : Ties} {L : List D} (hL : ∀ d ∈ L, Odd n es d) (h0 : L ≠ []) : ∃ d, Odd n es d ∧ atI L (c % (L.length : Int)) = some d := by
  have hl : 0 < L.length := List.length_pos_iff.mpr h0
  obtain ⟨d, hd, e⟩ := atI_in (xs := L) (Int.emod_nonneg c (by omega : (L.length : Int) ≠ 0)) (Int.emod_lt_of_pos c (by omega))
  exact ⟨d, hL d hd, e⟩
theorem odd_eq {n c : Int} {es : Ties} (h1 : 1 ≤ n) (h2 : n ≤ 10) (hl : es.length ≤ 1000) (hok : ∀ p ∈ es, 0 ≤ p.1 ∧ p.1 < p.2 ∧ p.2 < n) : ∃ d, Odd n es d ∧ g_law_odd [.int c, .int n, encT es] = .ok d := by
  unfold g_law_odd
  rw [runD_eq]; unfold m_law_odd
  have hp : dPow (.int 10) (.int 9) = some (.int 1000000000) := rfl
  obtain ⟨far, hf⟩ : ∃ far, far = n + c / 20 % 1000000000 := ⟨_, rfl⟩
  have hf2 : n ≤ far := by omega
  have hz : (.lst [] : D) = encT [] := rfl
  simp [List.replicate, hp]
  rw [hz, dNe_T, ← hf]
  have base : ∀ d ∈ [D.tup [D.int 0, D.int 0], D.tup [D.int 0, D.int n], D.tup [D.int (-1), D.int 0], D.tup [D.int 0, D.int far], D.tup [D.int 1, D.int 0], D.tup [D.bl true, D.int 2], D.tup [D.int 0, D.bl true], D.tup [D.str "0", D.int 1], D.tup [D.int 0, D.non], D.tup [D.int 0], D.tup [D.int 0, D.int 1, D.int 1], D.lst [D.int 0, D.int 1], D.non, D.int 7, D.tup [D.int 0, D.lst [D.int 1]], D.str "01"], Odd n es d := by
    intro d hd
    simp only [List.mem_cons, List.not_mem_nil, or_false] at hd
    unfold Odd
    rcases hd with rfl | rfl | rfl | rfl | rfl | rfl | rfl | rfl | rfl | rfl | rfl | rfl | rfl | rfl | rfl | rfl <;> simp [isTie?] <;> omega
  cases es with
  | nil =>
    simp
    obtain ⟨d, hd, e⟩ := odd_pick (c := c) base (by simp)
    simp at e
    exact ⟨d, hd, by rw [e]; rfl⟩
  | cons q r =>
    obtain ⟨e1, m1, a1⟩ := atI_in (xs := encP q :: r.map encP) (i := c / 20 % (r.length + 1)) (Int.emod_nonneg _ (by omega)) (by simp; exact Int.emod_lt_of_pos _ (by omega))
    obtain ⟨e2, m2, a2⟩ := atI_last (xs := encP q :: r.map encP) (by simp)
    have k : ∀ e ∈ encP q :: r.map encP, ∃ p ∈ q :: r, encP p = e := fun e he => by
      rcases List.mem_cons.mp he with z | z
      · exact ⟨q, by simp, z.symm⟩
      · obtain ⟨p, hp, e⟩ := List.mem_map.mp z
        exact ⟨p, by simp [hp], e⟩
    obtain ⟨p1, n1, rfl⟩ := k e1 m1
    obtain ⟨p2, n2, rfl⟩ := k e2 m2
    simp [a1, a2]
    have k2 := hok p2 n2
    have base2 : ∀ d ∈ [D.tup [D.int 0, D.int 0], D.tup [D.int 0, D.int n], D.tup [D.int (-1), D.int 0], D.tup [D.int 0, D.int far], D.tup [D.int 1, D.int 0], D.tup [D.bl true, D.int 2], D.tup [D.int 0, D.bl true], D.tup [D.str "0", D.int 1], D.tup [D.int 0, D.non], D.tup [D.int 0], D.tup [D.int 0, D.int 1, D.int 1], D.lst [D.int 0, D.int 1], D.non, D.int 7, D.tup [D.int 0, D.lst [D.int 1]], D.str "01", encP p1, D.tup [D.int p2.2, D.int p2.1]], Odd n (q :: r) d := by
      intro d hd
      simp only [List.mem_cons, List.not_mem_nil, or_false] at hd base
      rcases hd with h | h | h | h | h | h | h | h | h | h | h | h | h | h | h | h | h | h
      · exact base d (by simp [h])
      · exact base d (by simp [h])
      · exact base d (by simp [h])
      · exact base d (by simp [h])
      · exact base d (by simp [h])
      · exact base d (by simp [h])
      · exact base d (by simp [h])
      · exact base d (by simp [h])
      · exact base d (by simp [h])
      · exact base d (by simp [h])
      · exact base d (by simp [h])
      · exact base d (by simp [h])
      · exact base d (by simp [h])
      · exact base d (by simp [h])
      · exact base d (by simp [h])
      · exact base d (by simp [h])
      · exact ⟨.inr ⟨p1, n1, h⟩, by rw [h]; exact okN_P 7 p1⟩
      · subst h
        exact ⟨.inl (by simp [isTie?]; omega), by simp⟩
    obtain ⟨d, hd, e⟩ := odd_pick (c := c) base2 (by simp)
    simp at e
    exact ⟨d, hd, by rw [e]; rfl⟩
theorem eqv_same {d : D} (h : okN 9 d = true) : eqv d d = true := PySem.SeqAt.eqv_refl_plain _ (okN_plain 9 d h).1
theorem dEq_same {d : D} (h : okN 9 d = true) : dEq d d = some (.bl true) := by rw [dEq_ok _ _ h h, eqv_same h]
theorem law_k01 (ns : List Int) : g_law_k01 [.scr ns] = .ok (.bl true) := by
  unfold g_law_k01; rw [runD_eq]; unfold m_law_k01
  have hc0 := g_law_cell_at_eq ns 0
  have hc1 := g_law_cell_at_eq ns 1
  have hc2 := g_law_cell_at_eq ns 2
  have hc3 := g_law_cell_at_eq ns 3
  simp at hc0 hc1 hc2 hc3
  obtain ⟨n, hn⟩ : ∃ n, n = 1 + cellAt ns 0 % 10 := ⟨_, rfl⟩
  have hn1 : 1 ≤ n ∧ n ≤ 10 := by omega
  obtain ⟨w, hw⟩ : ∃ w, w = cellAt ns 1 % 13 := ⟨_, rfl⟩
  obtain ⟨sh, hsh⟩ : ∃ sh, sh = cellAt ns 1 / 13 % 6 := ⟨_, rfl⟩
  obtain ⟨cs, hcs⟩ : ∃ cs, cs = DL.cutD ns (some 4) (some 24) := ⟨_, rfl⟩
  have hcl : cs.length ≤ 20 := by rw [hcs]; exact cutD_len ns 4 24
  have hweb : Web n (tiesOf cs n) := web_of (by omega) (by omega) (by omega)
  have ht := g_law_ties_eq (cs := cs) (n := n) (by omega) (by omega) (by omega)
  have hp : dPow (.int 10) (.int 9) = some (.int 1000000000) := rfl
  have hst : dEq (.str "web value") (.str "web value") = some (.bl true) := dEq_same (by simp)
  by_cases h0 : sh = 0
  · simp [List.replicate, hc0, hc1, hc2, ← hn, ← hw, ← hsh, h0, hp]
    obtain ⟨d, hd, e⟩ := atI_in (xs := [D.int 0, D.int 11, D.int (-1 - cellAt ns 2 / 8 % 1000000000), D.int (11 + cellAt ns 2 / 8 % 1000000000), D.bl true, D.str "3", D.non, D.lst [D.int 3]]) (i := cellAt ns 2 % 8) (by omega) (by simp; omega)
    have hbad : g_need_web [d, .lst []] = .exc "BadWeb" := by
      simp only [List.mem_cons, List.not_mem_nil, or_false] at hd
      rcases hd with rfl | rfl | rfl | rfl | rfl | rfl | rfl | rfl
      · exact need2 (by omega)
      · exact need2 (by omega)
      · exact need2 (by omega)
      · exact need2 (by omega)
      · exact need1 rfl
      · exact need1 rfl
      · exact need1 rfl
      · exact need1 rfl
    simp [e, refused hbad, hst]
  by_cases h1 : sh = 1
  · simp [List.replicate, hc0, hc1, hc2, ← hn, ← hw, ← hsh, h1, cutD_map, ← hcs, ht]
    obtain ⟨d, hd, e⟩ := atI_in (xs := [D.non, D.tup ((tiesOf cs n).map encP), D.str "01", D.int 5, D.emp]) (i := cellAt ns 2 % 5) (by omega) (by simp; omega)
    have hbad : g_need_web [.int n, d] = .exc "BadWeb" := by
      simp only [List.mem_cons, List.not_mem_nil, or_false] at hd
      rcases hd with rfl | rfl | rfl | rfl | rfl <;> exact need3 rfl
    simp [e, refused hbad, hst]
  have hel := hweb.len
  by_cases h5 : sh < 5
  · obtain ⟨at', hat⟩ : ∃ a, a = cellAt ns 2 / 40 % ((tiesOf cs n).length + 1) := ⟨_, rfl⟩
    have ha0 : 0 ≤ at' := by rw [hat]; exact Int.emod_nonneg _ (by omega)
    have ha1 : at' < (tiesOf cs n).length + 1 := by rw [hat]; exact Int.emod_lt_of_pos _ (by omega)
    obtain ⟨k, rfl⟩ : ∃ k : Nat, at' = k := ⟨at'.toNat, by omega⟩
    have hkl : k ≤ (tiesOf cs n).length := by omega
    have hto : DL.cutD (tiesOf cs n) none (some (k : Int)) = (tiesOf cs n).take k := by
      unfold DL.cutD; rw [HT.sIx_none, HT.sIx_nat]; simp [Nat.min_eq_left hkl]
    have hfr : DL.cutD (tiesOf cs n) (some (k : Int)) none = (tiesOf cs n).drop k := by
      unfold DL.cutD; rw [HT.sIx_none, HT.sIx_nat]; simp [Nat.min_eq_left hkl]
      exact List.take_of_length_le (by rw [List.length_drop]; omega)
    have hpre : Web n ((tiesOf cs n).take k) := ⟨hweb.lo, hweb.hi, hweb.nd.sublist (List.take_sublist _ _), by rw [List.length_take]; omega, fun p hp => hweb.ok p (List.mem_of_mem_take hp)⟩
    obtain ⟨d, ⟨hd1, hd2⟩, ho⟩ := odd_eq (c := cellAt ns 3) (n := n) (es := (tiesOf cs n).take k) (by omega) (by omega) hpre.len hpre.ok
    have hbad := need4 (rest := ((tiesOf cs n).drop k).map encP) hpre hd1
    simp [List.replicate, hc0, hc1, hc2, hc3, ← hn, ← hw, ← hsh, h0, h1, h5, cutD_map, ← hcs, ht, -List.map_take, -List.map_drop, ← hat, hto, hfr, ho]
    have l1 : min k (tiesOf cs n).length ≤ 999999 := by omega
    have l2 : min k (tiesOf cs n).length + 1 + ((tiesOf cs n).length - k) ≤ 1000000 := by omega
    rw [if_pos l1]
    have l3 : dAdd (.lst (((tiesOf cs n).take k).map encP ++ [d])) (.lst (((tiesOf cs n).drop k).map encP)) = some (.lst (((tiesOf cs n).take k).map encP ++ d :: ((tiesOf cs n).drop k).map encP)) := by
      rw [dAdd_ll, if_pos (by simp; omega)]; simp
    have l4 : okN 9 (.lst (((tiesOf cs n).take k).map encP ++ d :: ((tiesOf cs n).drop k).map encP)) = true := by
      rw [okN_l, List.all_append, List.all_cons, hd2, show (((tiesOf cs n).take k).map encP).all (okN 8) = true from okN_T 7 _, show (((tiesOf cs n).drop k).map encP).all (okN 8) = true from okN_T 7 _]
      rfl
    simp [l3, -List.map_take, -List.map_drop, refused hbad, hst, dEq_same l4]
  · simp [List.replicate, hc0, hc1, hc2, ← hn, ← hw, ← hsh, h0, h1, h5, cutD_map, ← hcs, ht, g_need_web_eq hweb, DL.isNon]
    rw [dEq_same (okN_T 7 _)]
    rfl
end B

/-! SK: touching. -/
namespace B
open PySem PySem.Spec PyProof.Rows L2 DL
/-- two sets of points touch -/
def Tch (es : Ties) (a b : List Int) : Prop := ∃ x ∈ a, x ∈ b ∨ ∃ y ∈ b, Adj es x y
instance (es : Ties) (a b : Int) : Decidable (Adj es a b) := inferInstanceAs (Decidable (_ ∨ _))
instance (es : Ties) (a b : List Int) : Decidable (Tch es a b) := inferInstanceAs (Decidable (∃ x ∈ a, x ∈ b ∨ ∃ y ∈ b, Adj es x y))
def tchB (es : Ties) (a b : List Int) : Bool := a.any fun x => decide (x ∈ b) || b.any fun y => decide (Adj es x y)
theorem tchB_iff {es : Ties} {a b : List Int} : tchB es a b = true ↔ Tch es a b := by
  simp [tchB, Tch]
/-- the law's touch: the tie of two points, lesser first -/
theorem adj_mm {es : Ties} (h : ∀ p ∈ es, p.1 < p.2) (x y : Int) : ((if y < x then y else x, if y > x then y else x) ∈ es) ↔ Adj es x y := by
  unfold Adj
  by_cases h1 : y < x
  · rw [if_pos h1, if_neg (by omega)]
    constructor
    · exact .inr
    · rintro (z | z)
      · have := h _ z; simp at this; omega
      · exact z
  · by_cases h2 : y > x
    · rw [if_neg h1, if_pos h2]
      constructor
      · exact .inl
      · rintro (z | z)
        · exact z
        · have := h _ z; simp at this; omega
    · have : x = y := by omega
      subst this
      simp
theorem loopFindR {i : Nat} {s t : En → Out} {α : Type} {Γ : En} (enc : α → D) (I : En → Prop) (p : α → Bool) (d : D) (xs : List α) {R : Res} (h0 : I Γ)
    (hs : ∀ x ∈ xs, ∀ Γ, I Γ → (p x = true → ∃ Γ', s (Γ.set i (.sh (enc x))) = .ret d Γ') ∧ (p x = false → ∃ Γ', (s (Γ.set i (.sh (enc x))) = .nx Γ' ∨ s (Γ.set i (.sh (enc x))) = .ct Γ') ∧ I Γ'))
    (k1 : xs.any p = true → Res.ok d = R) (k2 : ∀ Γ', xs.any p = false → I Γ' → (t Γ').res = R) : ((loopF (bN i) s (xs.map enc) Γ).seq t).res = R := by
  obtain ⟨a, b⟩ := loop_find enc I p d xs Γ h0 hs
  cases e : xs.any p with
  | true => obtain ⟨Γ', q⟩ := a e; rw [q]; exact k1 e
  | false => obtain ⟨Γ', q, h⟩ := b e; rw [q]; exact k2 Γ' e h
theorem g_law_touch_eq {es : Ties} (h : ∀ p ∈ es, p.1 < p.2) {a b : List Int} (hb : b.length ≤ 1000000) : g_law_touch [encT es, encI a, encI b] = .ok (.bl (tchB es a b)) := by
  unfold g_law_touch; rw [runD_eq]; unfold m_law_touch
  simp [List.replicate]
  refine loopFindR D.int (fun Γ => ∃ x3 x4 x5, Γ = [.sh (encT es), .sh (encI a), .sh (encI b), x3, x4, x5]) (fun x => decide (x ∈ b) || b.any fun y => decide (Adj es x y)) (.bl true) a ⟨_, _, _, rfl⟩ ?_ ?_ ?_
  · rintro x hx Γ ⟨x3, x4, x5, rfl⟩
    have hn : ∀ l : List Int, dNe (.lst (l.map D.int)) (.lst []) = some (.bl (!decide (l = []))) := fun l => dNe_L l []
    have hc : compF (bN 5) (tst (eOp dIn (eTup (aCons (eCB dMin2 (aCons (eVar 3) (aCons (eVar 5) aNil))) (aCons (eCB dMax2 (aCons (eVar 3) (aCons (eVar 5) aNil))) aNil))) (eVar 0))) (eVar 5) [.sh (encT es), .sh (encI a), .sh (encI b), .sh (.int x), x4, .no] (b.map D.int) = some ((b.filter fun y => decide (Adj es x y)).map D.int) := by
      rw [compF_fil D.int fun y => decide (Adj es x y)]
      · intro y _
        have := adj_mm h x y
        simp
        rw [show (D.tup [D.int (if y < x then y else x), D.int (if x < y then y else x)]) = encP (if y < x then y else x, if y > x then y else x) from rfl, dIn_P]
        simp [this]
      · intro y _; simp
    by_cases h1 : x ∈ b
    · simp [hb, hc, hn, h1]
    · by_cases h2 : ∀ y ∈ b, ¬ Adj es x y
      · simp [hb, hc, hn, h1]
        exact ⟨fun y hy e => absurd e (h2 y hy), fun _ => by rw [decide_eq_true h2]; simp⟩
      · simp [hb, hc, hn, h1]
        exact ⟨fun y hy e => by rw [decide_eq_false h2]; simp, fun e => absurd e h2⟩
  · intro h; simp [tchB, h]
  · rintro Γ hf ⟨x3, x4, x5, rfl⟩
    simp [tchB, hf]
theorem loopFind2 {i : Nat} {s : En → Out} {α : Type} {Γ : En} (enc : α → D) (I : En → Prop) (p : α → Bool) (d : D) (xs : List α) {q : Bool} {J : En → Prop} (h0 : I Γ)
    (hs : ∀ x ∈ xs, ∀ Γ, I Γ → (p x = true → ∃ Γ', s (Γ.set i (.sh (enc x))) = .ret d Γ') ∧ (p x = false → ∃ Γ', (s (Γ.set i (.sh (enc x))) = .nx Γ' ∨ s (Γ.set i (.sh (enc x))) = .ct Γ') ∧ I Γ'))
    (hq : xs.any p = q) (hk : ∀ Γ', I Γ' → J Γ') : (q = true → ∃ Γ', loopF (bN i) s (xs.map enc) Γ = .ret d Γ') ∧ (q = false → ∃ Γ', (loopF (bN i) s (xs.map enc) Γ = .nx Γ' ∨ loopF (bN i) s (xs.map enc) Γ = .ct Γ') ∧ J Γ') := by
  obtain ⟨a, b⟩ := loop_find enc I p d xs Γ h0 hs
  rw [← hq]
  exact ⟨a, fun h => by obtain ⟨Γ', e, h⟩ := b h; exact ⟨Γ', .inl e, hk Γ' h⟩⟩
theorem g_meet_eq {es : Ties} {a b : List Int} {rows : List (List Int)} (hr : ∀ x ∈ a, 0 ≤ x ∧ ∃ r, rows[x.toNat]? = some r ∧ ∀ y ∈ b, (y ∈ r ↔ Adj es x y)) : g_meet [encR rows, encI a, encI b] = .ok (.bl (tchB es a b)) := by
  unfold g_meet; rw [runD_eq]; unfold m_meet
  simp [List.replicate]
  refine loopFindR D.int (fun Γ => ∃ x3 x4, Γ = [.sh (encR rows), .sh (encI a), .sh (encI b), x3, x4]) (fun x => decide (x ∈ b) || b.any fun y => decide (Adj es x y)) (.bl true) a ⟨_, _, rfl⟩ ?_ ?_ ?_
  · rintro x hx Γ ⟨x3, x4, rfl⟩
    obtain ⟨h0, r, h1, h2⟩ := hr x hx
    have e2 : atI (rows.map encI) x = some (encI r) := by
      obtain ⟨k, rfl⟩ : ∃ k : Nat, x = k := ⟨x.toNat, by omega⟩
      exact atI_nat (by rw [List.getElem?_map]; simp at h1; rw [h1]; rfl)
    by_cases h3 : x ∈ b
    · simp [h3]
    · simp only [h3, decide_false, Bool.false_or]
      have hq : (r.any fun y => decide (y ∈ b)) = b.any fun y => decide (Adj es x y) := by
        rw [Bool.eq_iff_iff]
        simp only [List.any_eq_true, decide_eq_true_eq]
        constructor
        · rintro ⟨y, q1, q2⟩; exact ⟨y, q2, (h2 y q2).mp q1⟩
        · rintro ⟨y, q1, q2⟩; exact ⟨y, (h2 y q1).mpr q2, q1⟩
      have hf : decide (x ∈ b) = false := decide_eq_false h3
      simp only [sSeq_ap, sIf_ap, tst_ap, eOp_ap, eVar_ap, List.set_cons_succ, List.set_cons_zero, gv_s, gv_0, Option.bind_some, dIn_I, hf, isBl_b, br_f, sNil_ap, seq_nx, sFor_ap, iL_ap, dIx_l, e2, isLst_l, forO_s]
      refine loopFind2 D.int (fun Γ => ∃ x4, Γ = [.sh (encR rows), .sh (encI a), .sh (encI b), .sh (.int x), x4]) (fun y => decide (y ∈ b)) (.bl true) r ⟨_, rfl⟩ ?_ hq ?_
      · rintro y hy Γ ⟨x4, rfl⟩
        by_cases h4 : y ∈ b <;> simp [h4]
      · rintro Γ ⟨x4, rfl⟩; exact ⟨_, _, rfl⟩
  · intro h; simp [tchB, h]
  · rintro Γ hf ⟨x3, x4, rfl⟩
    simp [tchB, hf]
theorem g_touch_eq {n : Int} {es : Ties} {a b : List Int} (h : Web n es) (ha : ∀ x ∈ a, 0 ≤ x ∧ x < n) : g_touch [.int n, encT es, encI a, encI b] = .ok (.bl (tchB es a b)) := by
  unfold g_touch; rw [runD_eq]; unfold m_touch
  have hm := g_meet_eq (es := es) (a := a) (b := b) (rows := near n es) fun x hx => ⟨(ha x hx).1, _, near_get h (ha x hx).1 (ha x hx).2, fun y _ => mem_nb⟩
  simp [g_need_web_eq h, g_near_of_eq h, hm]
end B

/-! SG: bags. -/
namespace B
open PySem PySem.Spec PyProof.Rows L2 DL
theorem inc_iff {ns : List Int} : ns.Pairwise (· < ·) ↔ ns = srt (ddp ns) := by
  constructor
  · intro h; exact srt_ddp_uniq h fun _ => Iff.rfl
  · intro h
    rw [h]
    have h1 := srt_sorted (ddp ns)
    have h2 : (srt (ddp ns)).Nodup := srt_nodup (ddp_nodup ns)
    exact (h1.and h2).imp fun ⟨a, b⟩ => by omega
/-- the ints of a bag: in range, rising -/
def bagI (n : Int) (ns : List Int) : Bool := ns.all (fun x => decide (0 ≤ x ∧ x < n)) && decide (ns = srt (ddp ns))
def bagB (n : Int) : D → Bool
  | .lst xs => match asInts xs with
    | some ns => bagI n ns
    | none => false
  | _ => false
theorem bagB_I (n : Int) (ns : List Int) : bagB n (encI ns) = bagI n ns := by simp [bagB, asInts_ints]
def okI (n : Int) : D → Bool
  | .int i => decide (0 ≤ i ∧ i < n)
  | _ => false
theorem okI_all {n : Int} : ∀ {xs : List D}, xs.all (okI n) = true → ∃ ns : List Int, xs = ns.map D.int ∧ ∀ x ∈ ns, 0 ≤ x ∧ x < n
  | [], _ => ⟨[], rfl, by simp⟩
  | x :: r, h => by
    rw [List.all_cons, Bool.and_eq_true] at h
    obtain ⟨ns, e, k⟩ := okI_all h.2
    cases x with
    | int i =>
      have hi : 0 ≤ i ∧ i < n := of_decide_eq_true h.1
      exact ⟨i :: ns, by rw [e]; rfl, fun y hy => by
        rcases List.mem_cons.mp hy with z | z
        · rw [z]; exact hi
        · exact k y z⟩
    | _ => cases h.1
theorem bag_false {n : Int} {xs : List D} (h : xs.all (okI n) = false) : bagB n (.lst xs) = false := by
  cases e : asInts xs with
  | none => simp [bagB, e]
  | some ns =>
    have := asInts_eq e
    subst this
    rw [bagB_I]
    unfold bagI
    have : ns.all (fun x => decide (0 ≤ x ∧ x < n)) = false := by
      rw [← h, List.all_map]; rfl
    rw [this]; rfl
theorem pairwise_step : ∀ {ns : List Int}, (∀ i, i + 1 < ns.length → ∀ a b, ns[i]? = some a → ns[i + 1]? = some b → a < b) ↔ ns.Pairwise (· < ·)
  | [] => by simp
  | [x] => by simp
  | x :: y :: r => by
    have ih := pairwise_step (ns := y :: r)
    constructor
    · intro h
      have h1 := ih.mp fun i hi a b ha hb => h (i + 1) (by simp at hi ⊢; omega) a b (by simpa using ha) (by simpa using hb)
      refine List.pairwise_cons.mpr ⟨fun z hz => ?_, h1⟩
      have hxy := h 0 (by simp) x y rfl rfl
      rcases List.mem_cons.mp hz with e | e
      · rw [e]; exact hxy
      · have := (List.pairwise_cons.mp h1).1 z e
        omega
    · intro h i hi a b ha hb
      obtain ⟨h1, h2⟩ := List.pairwise_cons.mp h
      cases i with
      | zero => simp at ha hb; subst ha hb; exact h1 _ (by simp)
      | succ i => exact ih.mpr h2 i (by simp at hi ⊢; omega) a b (by simpa using ha) (by simpa using hb)
theorem g_is_bag_eq {n : Int} {d : D} (hsc : ∀ ns, d ≠ .scr ns) (hl : ∀ xs, d = .lst xs → xs.length ≤ 1000) : g_is_bag [d, .int n] = .ok (.bl (bagB n d)) := by
  unfold g_is_bag; rw [runD_eq]; unfold m_is_bag
  cases d with
  | lst xs =>
    have hx := hl xs rfl
    cases e : xs.all (okI n) with
    | false =>
      rw [bag_false e]
      simp [List.replicate]
      have := fun h0 hs k1 k2 => loopFindR (i := 2) (s := (sIf (bOr (bNot (tst (eCall g_is_whole (aCons (eVar 2) aNil)))) (bNot (tst (eChain dLe dLt (eC (.int 0)) (eVar 2) (eVar 1))))) (sRet (eC (.bl false))) sNil)) (Γ := [.sh (.lst xs), .sh (.int n), .no, .no]) (R := .ok (.bl false))
        (t := sRet (eCB dAll (aCons (eL (fComp [3] (iR rg1 (aCons (eOp dSub (eCB dLen (aCons (eVar 0) aNil)) (eC (.int 1))) aNil)) (bN 3) bYes (eOp dLt (eOp dIx (eVar 0) (eVar 3)) (eOp dIx (eVar 0) (eOp dAdd (eVar 3) (eC (.int 1))))))) aNil))) (fun x : D => x) (fun Γ => ∃ x, Γ = [.sh (.lst xs), .sh (.int n), x, .no]) (fun x => !okI n x) (.bl false) xs h0 hs k1 k2
      rw [List.map_id'] at this
      refine this ⟨_, rfl⟩ ?_ ?_ ?_
      · rintro x hx Γ ⟨x2, rfl⟩
        cases x with
        | int i => by_cases h1 : 0 ≤ i <;> by_cases h2 : i < n <;> simp [okI, h1, h2]
        | _ => simp [okI, isInt?]
      · intro _; rfl
      · intro Γ' hf _
        have : xs.all (okI n) = true := by
          rw [List.all_eq_true]
          intro x hx
          have := List.any_eq_false.mp hf x hx
          simpa using this
        rw [e] at this; cases this
    | true =>
      obtain ⟨ns, rfl, hk⟩ := okI_all e
      rw [bagB_I]
      simp [List.replicate]
      have h2 := loopR (i := 2) (s := (sIf (bOr (bNot (tst (eCall g_is_whole (aCons (eVar 2) aNil)))) (bNot (tst (eChain dLe dLt (eC (.int 0)) (eVar 2) (eVar 1))))) (sRet (eC (.bl false))) sNil)) (Γ := [.sh (encI ns), .sh (.int n), .no, .no]) (R := .ok (.bl (bagI n ns)))
        (t := sRet (eCB dAll (aCons (eL (fComp [3] (iR rg1 (aCons (eOp dSub (eCB dLen (aCons (eVar 0) aNil)) (eC (.int 1))) aNil)) (bN 3) bYes (eOp dLt (eOp dIx (eVar 0) (eVar 3)) (eOp dIx (eVar 0) (eOp dAdd (eVar 3) (eC (.int 1))))))) aNil))) D.int (fun _ Γ => ∃ x, Γ = [.sh (encI ns), .sh (.int n), x, .no]) ns ⟨_, rfl⟩
      refine h2 ?_ ?_
      · rintro pre x post Γ hp ⟨x2, rfl⟩
        obtain ⟨k1, k2⟩ := hk x (by rw [hp]; simp)
        simp [k1, k2]
      · rintro Γ ⟨x2, rfl⟩
        have hx2 : ns.length ≤ 1000 := by simpa using hx
        have c1 : (ns.length : Int) - 1 ≤ 1000000 ∧ -1000000 ≤ (ns.length : Int) - 1 := by omega
        have c2 : (ptsOf ((ns.length : Int) - 1)).length ≤ 1000000 := by have := (pts_all ((ns.length : Int) - 1)).len; omega
        have hc : compF (bN 3) bYes (eOp dLt (eOp dIx (eVar 0) (eVar 3)) (eOp dIx (eVar 0) (eOp dAdd (eVar 3) (eC (.int 1))))) [.sh (encI ns), .sh (.int n), x2, .no] ((ptsOf ((ns.length : Int) - 1)).map D.int) =
            some (((ptsOf ((ns.length : Int) - 1)).map fun i => decide (ns.getD i.toNat 0 < ns.getD (i.toNat + 1) 0)).map D.bl) := by
          refine compF_all D.int D.bl _ _ fun i hi => ?_
          obtain ⟨p1, p2⟩ := mem_ptsOf.mp hi
          obtain ⟨k, rfl⟩ : ∃ k : Nat, i = k := ⟨i.toNat, by omega⟩
          have q1 : k < ns.length := by omega
          have q2 : k + 1 < ns.length := by omega
          have a1 : atI (ns.map D.int) (k : Int) = some (.int (ns.getD k 0)) := atI_nat (by rw [List.getElem?_map, List.getD_eq_getElem?_getD, List.getElem?_eq_getElem q1]; rfl)
          have a2 : atI (ns.map D.int) ((k : Int) + 1) = some (.int (ns.getD (k + 1) 0)) := by
            have : ((k : Int) + 1) = ((k + 1 : Nat) : Int) := by omega
            rw [this]
            exact atI_nat (by rw [List.getElem?_map, List.getD_eq_getElem?_getD, List.getElem?_eq_getElem q2]; rfl)
          simp [a1, a2]
        have hrng : rng 0 (ns.length - 1) = (ptsOf ((ns.length : Int) - 1)).map D.int := by
          rw [← rng_pts]
          congr 1
          omega
        simp [c1, hrng, c2, hc, -List.map_map]
        have hall : (ns.all fun x => decide (0 ≤ x ∧ x < n)) = true := List.all_eq_true.mpr fun x hx => decide_eq_true (hk x hx)
        have hfin : (((ptsOf ((ns.length : Int) - 1)).map fun i => decide (ns.getD i.toNat 0 < ns.getD (i.toNat + 1) 0)).all id) = bagI n ns := by
          unfold bagI
          rw [hall, Bool.true_and, Bool.eq_iff_iff, decide_eq_true_eq, ← inc_iff, ← pairwise_step, List.all_map, List.all_eq_true]
          constructor
          · intro h i hi a b ha hb
            have := h (i : Int) (mem_ptsOf.mpr (by omega))
            simp only [Function.comp_apply, id_eq, decide_eq_true_eq, Int.toNat_natCast] at this
            rw [List.getD_eq_getElem?_getD, List.getD_eq_getElem?_getD, ha, hb] at this
            exact this
          · intro h i hi
            obtain ⟨p1, p2⟩ := mem_ptsOf.mp hi
            obtain ⟨k, rfl⟩ : ∃ k : Nat, i = k := ⟨i.toNat, by omega⟩
            have q1 : k < ns.length := by omega
            have q2 : k + 1 < ns.length := by omega
            have := h k q2 _ _ (List.getElem?_eq_getElem q1) (List.getElem?_eq_getElem q2)
            simp only [Function.comp_apply, id_eq, decide_eq_true_eq, Int.toNat_natCast]
            rw [List.getD_eq_getElem?_getD, List.getD_eq_getElem?_getD, List.getElem?_eq_getElem q1, List.getElem?_eq_getElem q2]
            exact this
        rw [← hfin]
        simp
  | scr ns => exact absurd rfl (hsc ns)
  | _ => rfl
end B

/-! ST: thickets. -/
namespace B
open PySem PySem.Spec PyProof.Rows L2 DL
/-- a piece of a thicket: a bag that hangs together -/
noncomputable def pcI (n : Int) (es : Ties) (ns : List Int) : Bool := bagI n ns && decide ((comps es ns).length = 1)
noncomputable def pcB (n : Int) (es : Ties) : D → Bool
  | .lst xs => match asInts xs with
    | some ns => pcI n es ns
    | none => false
  | _ => false
theorem pcB_I (n : Int) (es : Ties) (ns : List Int) : pcB n es (encI ns) = pcI n es ns := by simp [pcB, asInts_ints]
theorem pcB_all {n : Int} {es : Ties} : ∀ {xs : List D}, xs.all (pcB n es) = true → ∃ rs : List (List Int), xs = rs.map encI ∧ ∀ r ∈ rs, pcI n es r = true
  | [], _ => ⟨[], rfl, by simp⟩
  | x :: r, h => by
    rw [List.all_cons, Bool.and_eq_true] at h
    obtain ⟨rs, e, k⟩ := pcB_all h.2
    cases x with
    | lst ys =>
      cases q : asInts ys with
      | none => have := h.1; simp [pcB, q] at this
      | some ns =>
        have e2 := asInts_eq q
        subst e2
        refine ⟨ns :: rs, by rw [e]; rfl, fun y hy => ?_⟩
        rcases List.mem_cons.mp hy with z | z
        · rw [z, ← pcB_I]; exact h.1
        · exact k y z
    | _ => cases h.1
theorem Tch.symm {es : Ties} {a b : List Int} (h : Tch es a b) : Tch es b a := by
  obtain ⟨x, hx, h | ⟨y, hy, e⟩⟩ := h
  · exact ⟨x, h, .inl hx⟩
  · exact ⟨y, hy, .inr ⟨x, hx, e.symm⟩⟩
theorem Tch.self {es : Ties} {a : List Int} (h : a ≠ []) : Tch es a a := by
  cases a with
  | nil => exact absurd rfl h
  | cons x r => exact ⟨x, by simp, .inl (by simp)⟩
theorem pcI_ne {n : Int} {es : Ties} {ns : List Int} (h : pcI n es ns = true) : ns ≠ [] := fun e => by
  subst e
  unfold pcI at h
  rw [Bool.and_eq_true] at h
  have h2 := of_decide_eq_true h.2
  have h3 := comps_n (es := es) (S := [])
  simp at h3
  rw [h3] at h2
  simp at h2
/-- all pairs of a list of pieces touch, told by each with the later ones -/
theorem pairs_iff {es : Ties} {rs : List (List Int)} (hne : ∀ r ∈ rs, r ≠ []) : rs.Pairwise (Tch es) ↔ ∀ a ∈ rs, ∀ b ∈ rs, Tch es a b := by
  constructor
  · intro h
    induction rs with
    | nil => intro a ha; simp at ha
    | cons r rs ih =>
      obtain ⟨h1, h2⟩ := List.pairwise_cons.mp h
      have ih := ih (fun r hr => hne r (by simp [hr])) h2
      intro a ha b hb
      rcases List.mem_cons.mp ha with ea | ka <;> rcases List.mem_cons.mp hb with eb | kb
      · rw [ea, eb]; exact Tch.self (hne r (by simp))
      · rw [ea]; exact h1 b kb
      · rw [eb]; exact (h1 a ka).symm
      · exact ih a ka b kb
  · intro h
    exact List.Pairwise.imp_of_mem (R := fun _ _ => True) (fun ha hb _ => h _ ha _ hb) (by
      induction rs with
      | nil => exact .nil
      | cons r rs ih => exact .cons (fun _ _ => trivial) (ih (fun r hr => hne r (by simp [hr])) fun a ha b hb => h a (by simp [ha]) b (by simp [hb])))
open Classical in
noncomputable def thkB (n : Int) (es : Ties) : D → Bool
  | .lst xs => !xs.isEmpty && xs.all (pcB n es) && decide (∃ rs : List (List Int), xs = rs.map encI ∧ ∀ a ∈ rs, ∀ b ∈ rs, Tch es a b)
  | _ => false
end B

/-! ST2: the two looks at a thicket. -/
namespace B
open PySem PySem.Spec PyProof.Rows L2 DL
/-- a thing that may be handed in as a thicket -/
structure Thg (d : D) : Prop where
  sc : ∀ ns, d ≠ .scr ns
  ln : ∀ xs, d = .lst xs → xs.length ≤ 1000 ∧ ∀ x ∈ xs, (∀ ns, x ≠ .scr ns) ∧ ∀ ys, x = .lst ys → ys.length ≤ 1000
theorem pcB_bag {n : Int} {es : Ties} {x : D} (h : bagB n x = false) : pcB n es x = false := by
  cases x with
  | lst ys =>
    cases q : asInts ys with
    | none => simp [pcB, q]
    | some ns => have h : bagI n ns = false := by simpa [bagB, q] using h
                 simp [pcB, q, pcI, h]
  | _ => rfl
theorem bagB_lst {n : Int} {x : D} (h : bagB n x = true) : ∃ ns, x = encI ns ∧ bagI n ns = true := by
  cases x with
  | lst ys =>
    cases q : asInts ys with
    | none => simp [bagB, q] at h
    | some ns => exact ⟨ns, congrArg D.lst (asInts_eq q), by simpa [bagB, q] using h⟩
  | _ => cases h
theorem bagI_rng {n : Int} {ns : List Int} (h : bagI n ns = true) : ∀ x ∈ ns, 0 ≤ x ∧ x < n := fun x hx => by
  unfold bagI at h
  rw [Bool.and_eq_true] at h
  exact of_decide_eq_true (List.all_eq_true.mp h.1 x hx)
theorem bagI_inc {n : Int} {ns : List Int} (h : bagI n ns = true) : ns.Pairwise (· < ·) := by
  unfold bagI at h
  rw [Bool.and_eq_true] at h
  exact inc_iff.mpr (of_decide_eq_true h.2)
theorem loopFindD {i : Nat} {s t : En → Out} {Γ : En} (I : En → Prop) (p : D → Bool) (d : D) (xs : List D) {R : Res} (h0 : I Γ)
    (hs : ∀ x ∈ xs, ∀ Γ, I Γ → (p x = true → ∃ Γ', s (Γ.set i (.sh x)) = .ret d Γ') ∧ (p x = false → ∃ Γ', (s (Γ.set i (.sh x)) = .nx Γ' ∨ s (Γ.set i (.sh x)) = .ct Γ') ∧ I Γ'))
    (k1 : xs.any p = true → Res.ok d = R) (k2 : ∀ Γ', xs.any p = false → I Γ' → (t Γ').res = R) : ((loopF (bN i) s xs Γ).seq t).res = R := by
  have h := loopFindR (i := i) (s := s) (t := t) (Γ := Γ) (R := R) (fun x : D => x) I p d xs h0 hs k1 k2
  rw [List.map_id'] at h
  exact h
theorem encI_injS {a b : List Int} (h : encI a = encI b) : a = b := by
  have : asInts (a.map D.int) = asInts (b.map D.int) := congrArg asInts (D.lst.inj h)
  rw [asInts_ints, asInts_ints] at this
  exact Option.some.inj this
theorem map_encI_inj : ∀ {a b : List (List Int)}, a.map encI = b.map encI → a = b
  | [], [], _ => rfl
  | [], _ :: _, h => by cases h
  | _ :: _, [], h => by cases h
  | x :: r, y :: t, h => by
    rw [List.map_cons, List.map_cons] at h
    obtain ⟨h1, h2⟩ := List.cons.inj h
    rw [encI_injS h1, map_encI_inj h2]
theorem pairs_idx {α : Type} {R : α → α → Prop} {d : α} : ∀ {rs : List α}, (∀ k, k < rs.length → ∀ b ∈ rs.drop (k + 1), R (rs.getD k d) b) ↔ rs.Pairwise R
  | [] => by simp
  | x :: r => by
    have ih := pairs_idx (R := R) (d := d) (rs := r)
    constructor
    · intro h
      refine List.pairwise_cons.mpr ⟨fun b hb => ?_, ih.mp fun k hk b hb => ?_⟩
      · exact h 0 (by simp) b (by simpa using hb)
      · have := h (k + 1) (by simpa using hk) b (by simpa using hb)
        simpa using this
    · intro h k hk b hb
      obtain ⟨h1, h2⟩ := List.pairwise_cons.mp h
      cases k with
      | zero => simpa using h1 b (by simpa using hb)
      | succ k => simpa using ih.mpr h2 k (by simpa using hk) b (by simpa using hb)
open Classical in
theorem thkB_R {n : Int} {es : Ties} {rs : List (List Int)} (e0 : (rs.map encI).isEmpty = false) (hk : ∀ r ∈ rs, pcI n es r = true) : thkB n es (.lst (rs.map encI)) = decide (∀ a ∈ rs, ∀ b ∈ rs, Tch es a b) := by
  have h1 : (rs.map encI).all (pcB n es) = true := by
    rw [List.all_map]; exact List.all_eq_true.mpr fun r hr => by simp only [Function.comp_apply, pcB_I]; exact hk r hr
  show (!(rs.map encI).isEmpty && (rs.map encI).all (pcB n es) && decide _) = _
  rw [e0, h1]
  simp only [Bool.not_false, Bool.true_and]
  rw [decide_eq_decide]
  constructor
  · rintro ⟨qs, e, h⟩
    rw [map_encI_inj e]; exact h
  · intro h; exact ⟨rs, rfl, h⟩
theorem pairs_any (es : Ties) (rs : List (List Int)) : ((ptsOf rs.length).any fun i => (rs.drop (i.toNat + 1)).any fun b => !tchB es (rs.getD i.toNat []) b) = !decide (rs.Pairwise (Tch es)) := by
  rw [Bool.eq_iff_iff, Bool.not_eq_true', decide_eq_false_iff_not, ← pairs_idx (d := []), List.any_eq_true]
  constructor
  · rintro ⟨i, hi, h⟩ z
    obtain ⟨b, hb, q⟩ := List.any_eq_true.mp h
    obtain ⟨p1, p2⟩ := mem_ptsOf.mp hi
    have := z i.toNat (by omega) b hb
    rw [← tchB_iff] at this
    rw [this] at q; cases q
  · intro h
    obtain ⟨k, h⟩ := Classical.not_forall.mp h
    obtain ⟨hk, h⟩ := Classical.not_forall.mp h
    obtain ⟨b, h⟩ := Classical.not_forall.mp h
    obtain ⟨hb, h⟩ := Classical.not_forall.mp h
    refine ⟨k, mem_ptsOf.mpr (by omega), List.any_eq_true.mpr ⟨b, hb, ?_⟩⟩
    rw [← tchB_iff, Bool.not_eq_true] at h
    simp only [Int.toNat_natCast]
    rw [h]; rfl
theorem g_is_thicket_eq {n : Int} {es : Ties} {d : D} (h : Web n es) (hd : Thg d) : g_is_thicket [.int n, encT es, d] = .ok (.bl (thkB n es d)) := by
  unfold g_is_thicket; rw [runD_eq]; unfold m_is_thicket
  have hnw := g_need_web_eq h
  have hnr := g_near_of_eq h
  cases d with
  | lst xs =>
    obtain ⟨hl, hx⟩ := hd.ln xs rfl
    cases e0 : xs.isEmpty with
    | true =>
      have e0 : xs = [] := by simpa using e0
      subst e0
      have e1 : dEq (.lst []) (.lst []) = some (.bl true) := rfl
      simp [List.replicate, hnw, thkB, e1]
    | false =>
      simp [List.replicate, hnw, hnr, dEq_nil, e0]
      refine loopFindD (fun Γ => ∃ x4, Γ = [.sh (.int n), .sh (encT es), .sh (.lst xs), .sh (encR (near n es)), x4, .no, .no]) (fun x => !pcB n es x) (.bl false) xs ⟨_, rfl⟩ ?_ ?_ ?_
      · rintro x hxm Γ ⟨x4, rfl⟩
        obtain ⟨c1, c2⟩ := hx x hxm
        have hb := g_is_bag_eq (n := n) c1 c2
        cases eb : bagB n x with
        | false =>
          rw [eb] at hb
          simp [hb, pcB_bag eb]
        | true =>
          obtain ⟨ns, rfl, hk⟩ := bagB_lst eb
          rw [eb] at hb
          have hp : Pts n ns := ⟨(bagI_inc hk).imp (fun q => by omega), bagI_rng hk⟩
          simp [hb, g_parts_among_eq h hp, pcB_I, pcI, hk]
          by_cases c : (comps es ns).length = 1
          · simp [c]
          · have c' : ¬ ((comps es ns).length : Int) = 1 := by omega
            simp [c, c']
      · intro hf
        have : xs.all (pcB n es) = false := by
          rw [Bool.eq_false_iff]
          intro z
          obtain ⟨x, m, q⟩ := List.any_eq_true.mp hf
          rw [List.all_eq_true.mp z x m] at q
          cases q
        simp [thkB, this]
      · rintro Γ hf ⟨x4, rfl⟩
        have hall : xs.all (pcB n es) = true := List.all_eq_true.mpr fun x hxm => by
          have := List.any_eq_false.mp hf x hxm
          simpa using this
        obtain ⟨rs, rfl, hk⟩ := pcB_all hall
        have c1 : (rs.length : Int) ≤ 1000000 := by simp at hl; omega
        have hr : ∀ r ∈ rs, Pts n r := fun r hrm => by
          have := hk r hrm
          unfold pcI at this
          rw [Bool.and_eq_true] at this
          exact ⟨(bagI_inc this.1).imp (fun q => by omega), bagI_rng this.1⟩
        simp [c1]
        have hrg : rng 0 rs.length = (ptsOf (rs.length : Int)).map D.int := rng_pts (rs.length : Int)
        rw [hrg]
        refine loopFindR D.int (fun Γ => ∃ x4 x5 x6, Γ = [.sh (.int n), .sh (encT es), .sh (.lst (rs.map encI)), .sh (encR (near n es)), x4, x5, x6]) (fun i => (rs.drop (i.toNat + 1)).any fun b => !tchB es (rs.getD i.toNat []) b) (.bl false) (ptsOf rs.length) ⟨_, _, _, rfl⟩ ?_ ?_ ?_
        · rintro i hi Γ ⟨x4, x5, x6, rfl⟩
          obtain ⟨p1, p2⟩ := mem_ptsOf.mp hi
          obtain ⟨k, rfl⟩ : ∃ k : Nat, i = k := ⟨i.toNat, by omega⟩
          have hcut : DL.cutD rs (some ((k : Int) + 1)) none = rs.drop (k + 1) := by
            have : ((k : Int) + 1) = ((k + 1 : Nat) : Int) := by omega
            rw [this]; unfold DL.cutD; rw [HT.sIx_nat, HT.sIx_none]
            rw [List.take_of_length_le (by simp)]
            rw [Nat.min_eq_left (by omega)]
          have hat : atI (rs.map encI) (k : Int) = some (encI (rs.getD k [])) := atI_nat (by rw [List.getElem?_map, List.getD_eq_getElem?_getD, List.getElem?_eq_getElem (by omega)]; rfl)
          have hme : rs.getD k [] ∈ rs := by rw [List.getD_eq_getElem?_getD, List.getElem?_eq_getElem (by omega)]; simp
          generalize hq : ((rs.drop ((k : Int).toNat + 1)).any fun b => !tchB es (rs.getD (k : Int).toNat []) b) = q
          simp [cutD_map, hcut, -List.map_drop]
          refine loopFind2 (i := 6) encI (fun Γ => ∃ x6, Γ = [.sh (.int n), .sh (encT es), .sh (.lst (rs.map encI)), .sh (encR (near n es)), x4, .sh (.int k), x6]) (fun b => !tchB es (rs.getD k []) b) (.bl false) (rs.drop (k + 1)) ⟨_, rfl⟩ ?_ hq ?_
          · rintro b hb Γ ⟨x6, rfl⟩
            have hm := g_meet_eq (es := es) (a := rs.getD k []) (b := b) (rows := near n es) fun x hx => ⟨((hr _ hme).ok x hx).1, _, near_get h ((hr _ hme).ok x hx).1 ((hr _ hme).ok x hx).2, fun y _ => mem_nb⟩
            simp only [List.getD_eq_getElem?_getD] at hm hat
            cases et : tchB es (rs[k]?.getD []) b <;> simp [hat, hm, et]
          · rintro Γ ⟨x6, rfl⟩
            exact ⟨_, _, _, rfl⟩
        · intro hf
          rw [pairs_any] at hf
          have hf : ¬ rs.Pairwise (Tch es) := by simpa using hf
          rw [thkB_R e0 hk, decide_eq_false (fun z => hf ((pairs_iff fun r q => pcI_ne (hk r q)).mpr z))]
        · rintro Γ hf ⟨x4, x5, x6, rfl⟩
          simp
          rw [pairs_any] at hf
          have hf : rs.Pairwise (Tch es) := by simpa using hf
          rw [thkB_R e0 hk, decide_eq_true ((pairs_iff fun r q => pcI_ne (hk r q)).mp hf)]
  | scr ns => exact absurd rfl (hd.sc ns)
  | _ => simp [List.replicate, hnw, thkB]; rfl
end B

/-! ST3: the law's look at a thicket. -/
namespace B
open PySem PySem.Spec PyProof.Rows L2 DL
theorem whole_all {i : Nat} {n : Int} {Γ : En} (xs : List D) (f : En → Option D) (hf : ∀ x ∈ xs, f (Γ.set i (.sh x)) = some (.bl (okI n x))) : compF (bN i) bYes f Γ xs = some (xs.map fun x => D.bl (okI n x)) := by
  have := compF_all (Γ := Γ) (i := i) (f := f) (fun x : D => x) D.bl (okI n) xs hf
  rw [List.map_id', List.map_map] at this
  exact this
theorem all_okI {n : Int} (ys : List D) : ((ys.map fun x => D.bl (okI n x)) = (ys.map (okI n)).map D.bl) := by rw [List.map_map]; rfl
theorem g_law_is_thicket_eq {n : Int} {es : Ties} {d : D} (h : Web n es) (hd : Thg d) (hs : ∀ xs, d = .lst xs → ∀ ys, D.lst ys ∈ xs → ys.length < 64) : g_law_is_thicket [.int n, encT es, d] = .ok (.bl (thkB n es d)) := by
  unfold g_law_is_thicket; rw [runD_eq]; unfold m_law_is_thicket
  cases d with
  | lst xs =>
    obtain ⟨hl, hx⟩ := hd.ln xs rfl
    cases e0 : xs.isEmpty with
    | true =>
      have e0 : xs = [] := by simpa using e0
      subst e0
      have e1 : dEq (.lst []) (.lst []) = some (.bl true) := rfl
      simp [List.replicate, thkB, e1]
    | false =>
      simp [List.replicate, dEq_nil, e0]
      refine loopFindD (fun Γ => ∃ x3, Γ = [.sh (.int n), .sh (encT es), .sh (.lst xs), x3, .no, .no, .no]) (fun x => !pcB n es x) (.bl false) xs ⟨_, rfl⟩ ?_ ?_ ?_
      · rintro x hxm Γ ⟨x4, rfl⟩
        obtain ⟨c1, c2⟩ := hx x hxm
        cases x with
        | lst ys =>
          have hy := hs xs rfl ys hxm
          have hy2 : ys.length ≤ 1000000 := by omega
          have hc := whole_all (i := 4) (n := n) (Γ := [.sh (.int n), .sh (encT es), .sh (.lst xs), .sh (.lst ys), .no, .no, .no]) ys (eAnd (eCall g_law_whole (aCons (eVar 4) aNil)) (eChain dLe dLt (eC (.int 0)) (eVar 4) (eVar 0))) (fun y _ => by
            cases y with
            | int i =>
              simp [g_law_whole_eq, okI]
              by_cases q : 0 ≤ i <;> simp [q]
            | _ => simp [g_law_whole_eq, okI]; try rfl)
          rw [all_okI] at hc
          cases eo : ys.all (okI n) with
          | false =>
            have hpf : pcB n es (.lst ys) = false := pcB_bag (bag_false eo)
            have eo2 : ((ys.map (okI n)).all id) = false := by rw [List.all_map]; exact eo
            simp [hy2, hc, hpf, eo, -List.map_map]
          | true =>
            obtain ⟨ns, rfl, hk⟩ := okI_all eo
            have hy3 : ns.length < 64 := by simpa using hy
            have hy4 : ns.length ≤ 1000000 := by omega
            have ss : dSortedSet (.lst (ns.map D.int)) = some ((srt (ddp ns)).map D.int) := by simp [dSortedSet, asInts_ints, hy3]
            have hne : dNe (.lst (ns.map D.int)) (.lst ((srt (ddp ns)).map D.int)) = some (.bl (!decide (ns = srt (ddp ns)))) := dNe_L ns _
            have hpe : pcB n es (.lst (ns.map D.int)) = pcI n es ns := pcB_I n es ns
            have hall : (ns.all fun x => decide (0 ≤ x ∧ x < n)) = true := List.all_eq_true.mpr fun x hx => decide_eq_true (hk x hx)
            by_cases eq : ns = srt (ddp ns)
            · have nd : ns.Nodup := (inc_iff.mpr eq).imp fun q => by omega
              have hlen := g_law_among_eq (es := es) nd (by omega)
              have hpi : pcI n es ns = decide ((comps es ns).length = 1) := by unfold pcI bagI; rw [hall, decide_eq_true eq]; rfl
              have ne2 : dNe (.lst (ns.map D.int)) (.lst ((srt (ddp ns)).map D.int)) = some (.bl false) := by rw [hne, decide_eq_true eq]; rfl
              by_cases c : (comps es ns).length = 1
              · simp [hy4, hc, eo, ss, ne2, hlen, hpe, hpi, c, -List.map_map]
              · have c' : ¬ ((comps es ns).length : Int) = 1 := by omega
                simp [hy4, hc, eo, ss, ne2, hlen, hpe, hpi, c, c', -List.map_map]
            · have hpi : pcI n es ns = false := by unfold pcI bagI; rw [hall, decide_eq_false eq]; rfl
              have ne2 : dNe (.lst (ns.map D.int)) (.lst ((srt (ddp ns)).map D.int)) = some (.bl true) := by rw [hne, decide_eq_false eq]; rfl
              simp [hy4, hc, eo, ss, ne2, hpe, hpi, -List.map_map]
        | scr ns => exact absurd rfl (c1 ns)
        | _ => simp [pcB]; exact ⟨_, rfl⟩
      · intro hf
        have : xs.all (pcB n es) = false := by
          rw [Bool.eq_false_iff]
          intro z
          obtain ⟨x, m, q⟩ := List.any_eq_true.mp hf
          rw [List.all_eq_true.mp z x m] at q
          cases q
        simp [thkB, this]
      · rintro Γ hf ⟨x4, rfl⟩
        have hall : xs.all (pcB n es) = true := List.all_eq_true.mpr fun x hxm => by
          have := List.any_eq_false.mp hf x hxm
          simpa using this
        obtain ⟨rs, rfl, hk⟩ := pcB_all hall
        have hlr : rs.length ≤ 1000000 := by simp at hl; omega
        have hlt : ∀ p ∈ es, p.1 < p.2 := fun p hp => (h.ok p hp).2.1
        have hlb : ∀ r ∈ rs, r.length ≤ 1000000 := fun r hr => by
          have := hs _ rfl (r.map D.int) (List.mem_map.mpr ⟨r, hr, rfl⟩)
          simp at this; omega
        refine loopFindR encI (fun Γ => ∃ x5, Γ = [.sh (.int n), .sh (encT es), .sh (.lst (rs.map encI)), x4, .no, x5, .no]) (fun a => !rs.all fun b => tchB es a b) (.bl false) rs ⟨.no, rfl⟩ ?_ ?_ ?_
        · rintro a ha Γ ⟨x5, rfl⟩
          have hc := compF_all (i := 6) (f := eCall g_law_touch (aCons (eVar 1) (aCons (eVar 5) (aCons (eVar 6) aNil)))) (Γ := [.sh (.int n), .sh (encT es), .sh (.lst (rs.map encI)), x4, .no, .sh (encI a), .no]) encI D.bl (fun b => tchB es a b) rs (fun b hb => by
            have := g_law_touch_eq (a := a) hlt (hlb b hb)
            simp [this])
          have hal : ((rs.map fun b => tchB es a b).all id) = rs.all fun b => tchB es a b := by rw [List.all_map]; rfl
          cases hq : (rs.all fun b => tchB es a b) <;> simp [hlr, hc, hq, -List.map_map, -List.all_eq_true, -List.all_eq_false]
        · intro hf
          have : ¬ ∀ a ∈ rs, ∀ b ∈ rs, Tch es a b := fun z => by
            obtain ⟨a, ha, q⟩ := List.any_eq_true.mp hf
            have : (rs.all fun b => tchB es a b) = true := List.all_eq_true.mpr fun b hb => tchB_iff.mpr (z a ha b hb)
            rw [this] at q; cases q
          rw [thkB_R e0 hk, decide_eq_false this]
        · rintro Γ hf ⟨x5, rfl⟩
          have : ∀ a ∈ rs, ∀ b ∈ rs, Tch es a b := fun a ha b hb => by
            have q := List.any_eq_false.mp hf a ha
            have q : (rs.all fun b => tchB es a b) = true := by simpa only [Bool.not_eq_true', Bool.not_eq_false] using q
            exact tchB_iff.mp (List.all_eq_true.mp q b hb)
          rw [thkB_R e0 hk, decide_eq_true this]
          rfl
  | scr ns => exact absurd rfl (hd.sc ns)
  | _ => simp [List.replicate, thkB]; rfl
end B

/-! SH: choices and hits. -/
namespace B
open PySem PySem.Spec PyProof.Rows L2 DL
def ptsFrom (a n : Int) : List Int := (List.range (n - a).toNat).map fun (k : Nat) => a + (k : Int)
theorem rng_from (a n : Int) : rng a (n - a).toNat = (ptsFrom a n).map D.int := by
  unfold rng ptsFrom; rw [List.map_map]; rfl
theorem mem_from {a n x : Int} : x ∈ ptsFrom a n ↔ a ≤ x ∧ x < n := by
  unfold ptsFrom
  rw [List.mem_map]
  constructor
  · rintro ⟨k, hk, rfl⟩; have := List.mem_range.mp hk; omega
  · rintro ⟨h1, h2⟩; exact ⟨(x - a).toNat, List.mem_range.mpr (by omega), by omega⟩
theorem from_inc (a n : Int) : (ptsFrom a n).Pairwise (· < ·) := by
  unfold ptsFrom
  rw [List.pairwise_map]
  exact List.pairwise_lt_range.imp fun h => by omega
def lo (row : List Int) : Int := match row.getLast? with
  | none => 0
  | some l => l + 1
def up (n : Int) (row : List Int) : List (List Int) := (ptsFrom (lo row) n).map fun p => row ++ [p]
def chs (n : Int) : Nat → List (List Int)
  | 0 => [[]]
  | k + 1 => (chs n k).flatMap (up n)
theorem chs_fin : ∀ n ∈ List.range 11, ∀ k ∈ List.range 12, (chs n k).length ≤ 1000 := by decide +kernel
theorem chs_len {n : Int} {k : Nat} (h : 1 ≤ n ∧ n ≤ 10) (hk : k ≤ 11) : (chs n k).length ≤ 1000 := by
  have := chs_fin n.toNat (by simp; omega) k (by simp; omega)
  rw [Int.toNat_of_nonneg (by omega)] at this
  exact this
theorem lo_snoc (row : List Int) (p : Int) : lo (row ++ [p]) = p + 1 := by simp [lo]
/-- a rising list of points -/
structure Ris (n : Int) (r : List Int) : Prop where
  inc : r.Pairwise (· < ·)
  ok : ∀ x ∈ r, 0 ≤ x ∧ x < n
theorem Ris.lo_le {n : Int} {r : List Int} (h : Ris n r) {p : Int} : lo r ≤ p ↔ (0 ≤ p ∧ ∀ x ∈ r, x < p) := by
  rcases List.eq_nil_or_concat r with rfl | ⟨i, l, rfl⟩
  · simp [lo]
  · rw [List.concat_eq_append] at h ⊢
    rw [lo_snoc]
    have hl := h.ok l (by simp)
    have hp := (List.pairwise_append.mp h.inc).2.2
    constructor
    · intro q
      refine ⟨by omega, fun x hx => ?_⟩
      rcases List.mem_append.mp hx with z | z
      · have := hp x z l (by simp); omega
      · simp at z; omega
    · rintro ⟨_, q⟩
      have := q l (by simp); omega
theorem mem_chs {n : Int} : ∀ {k : Nat} {r : List Int}, r ∈ chs n k ↔ Ris n r ∧ r.length = k
  | 0, r => by
    show r ∈ [[]] ↔ _
    rw [List.mem_singleton]
    constructor
    · rintro rfl; exact ⟨⟨.nil, by simp⟩, rfl⟩
    · exact fun h => List.eq_nil_of_length_eq_zero h.2
  | k + 1, r => by
    show r ∈ (chs n k).flatMap (up n) ↔ _
    rw [List.mem_flatMap]
    constructor
    · rintro ⟨row, h1, h2⟩
      obtain ⟨hr, hl⟩ := mem_chs.mp h1
      obtain ⟨p, hp, rfl⟩ := List.mem_map.mp h2
      obtain ⟨q1, q2⟩ := mem_from.mp hp
      obtain ⟨q0, q3⟩ := hr.lo_le.mp q1
      refine ⟨⟨List.pairwise_append.mpr ⟨hr.inc, by simp, fun x hx y hy => ?_⟩, fun x hx => ?_⟩, by simp [hl]⟩
      · simp at hy; subst hy; exact q3 x hx
      · rcases List.mem_append.mp hx with z | z
        · exact hr.ok x z
        · simp at z; omega
    · rintro ⟨hr, hl⟩
      rcases List.eq_nil_or_concat r with rfl | ⟨i, l, rfl⟩
      · cases hl
      · rw [List.concat_eq_append] at hr hl ⊢
        have hi : Ris n i := ⟨(List.pairwise_append.mp hr.inc).1, fun x hx => hr.ok x (by simp [hx])⟩
        refine ⟨i, mem_chs.mpr ⟨hi, by simpa using hl⟩, List.mem_map.mpr ⟨l, mem_from.mpr ⟨hi.lo_le.mpr ⟨(hr.ok l (by simp)).1, fun x hx => ?_⟩, (hr.ok l (by simp)).2⟩, rfl⟩⟩
        exact (List.pairwise_append.mp hr.inc).2.2 x hx l (by simp)
theorem atI_snoc {α : Type} (xs : List α) (x : α) : atI (xs ++ [x]) (-1) = some x := by
  have : ixN (xs ++ [x]).length (-1) = some xs.length := by
    unfold ixN
    rw [if_neg (by decide), if_pos (by simp; omega)]
    congr 1; simp
    omega
  unfold atI
  rw [this]
  simp
theorem up_len (n : Int) (r : List Int) : (up n r).length = (n - lo r).toNat := by simp [up, ptsFrom]
theorem g_choices_eq {n : Int} {k : Nat} (h : 1 ≤ n ∧ n ≤ 10) (hk : k ≤ 10) : g_choices [.int n, .int k] = .ok (encR (chs n k)) := by
  unfold g_choices; rw [runD_eq]; unfold m_choices
  have hk2 : (k : Int) ≤ 1000000 ∧ -1000000 ≤ (k : Int) := by omega
  have hkp := rng_pts (k : Int)
  rw [Int.toNat_natCast] at hkp
  simp [List.replicate, hk2, hkp]
  refine loopR D.int (fun pre Γ => pre.length ≤ k ∧ ∃ x3 x4 x5 x6, Γ = [.sh (.int n), .sh (.int k), .sh (encR (chs n pre.length)), x3, x4, x5, x6, .no]) (ptsOf k) ⟨Nat.zero_le _, _, _, _, _, rfl⟩ ?_ ?_
  · rintro pre t post Γ hp ⟨hpl, x3, x4, x5, x6, rfl⟩
    have hpl2 : pre.length < k := by
      have := congrArg List.length hp
      simp [ptsOf] at this; omega
    have hcl := chs_len (k := pre.length + 1) h (by omega)
    obtain ⟨rows, hrows⟩ : ∃ rows, rows = chs n pre.length := ⟨_, rfl⟩
    have hnext : chs n (pre.length + 1) = rows.flatMap (up n) := by rw [hrows]; rfl
    rw [hnext] at hcl
    have hris : ∀ r ∈ rows, Ris n r := fun r hr => by rw [hrows] at hr; exact (mem_chs.mp hr).1
    have hR : (encR (chs n pre.length)) = .lst (rows.map encI) := by rw [← hrows]
    simp [hR]
    refine loopX encI (fun pre2 Γ => ∃ x5 x6, Γ = [.sh (.int n), .sh (.int k), .sh (.lst (rows.map encI)), .sh (.int t), .ol ((pre2.flatMap (up n)).map encI), x5, x6, .no]) rows ⟨_, _, rfl⟩ ?_ ?_
    · rintro pre2 r post2 Γ hp2 ⟨x5, x6, rfl⟩
      have hr := hris r (by rw [hp2]; simp)
      have hfl : rows.flatMap (up n) = pre2.flatMap (up n) ++ (up n r ++ post2.flatMap (up n)) := by rw [hp2]; simp
      rw [hfl] at hcl
      simp only [List.length_append, up_len] at hcl
      have hup : ∀ x5 x6, compF (bN 7) bYes (eOp dAdd (eVar 5) (eLst (aCons (eVar 7) aNil))) [.sh (.int n), .sh (.int k), .sh (.lst (rows.map encI)), .sh (.int t), x5, .sh (encI r), x6, .no] ((ptsFrom (lo r) n).map D.int) = some ((up n r).map encI) := fun x5 x6 => by
        have hrl : r.length + 1 ≤ 1000000 := by
          have h1 := nodup_sub_len (ys := ptsOf n) (hr.inc.imp fun q => by omega) fun x hx => mem_ptsOf.mpr (hr.ok x hx)
          have h2 := (pts_all n).len
          omega
        rw [compF_all D.int encI fun p => r ++ [p]]
        · rfl
        · intro p _; simp; omega
      have hlo : -1000000 ≤ lo r ∧ lo r ≤ 1000000 := by
        rcases List.eq_nil_or_concat r with rfl | ⟨i, l, rfl⟩
        · simp [lo]
        · have := hr.ok l (by simp); rw [List.concat_eq_append, lo_snoc]; omega
      have hn2 : -1000000 ≤ n ∧ n ≤ 1000000 := by omega
      have hl2 : (n - lo r).toNat ≤ 1000000 := by omega
      have hl3 : (pre2.flatMap (up n)).length + (up n r).length ≤ 1000000 := by rw [up_len]; omega
      have hfs : (pre2 ++ [r]).flatMap (up n) = pre2.flatMap (up n) ++ up n r := by simp
      have hfl2 : (ptsFrom (lo r) n).length ≤ 1000000 := by simp [ptsFrom]; omega
      rw [hfs]
      clear hfl hcl hfs
      generalize (pre2.flatMap (up n)) = acc at hl3 ⊢
      cases er : r with
      | nil =>
        subst er
        have e0 : lo [] = 0 := rfl
        have hr0 := rng_from 0 n
        simp at hr0
        rw [e0] at hup hfl2
        have e1 : dNe (encI []) (.lst []) = some (.bl false) := rfl
        simp [e1, hn2, hr0, hup, hfl2, hl3]
      | cons a b =>
        obtain ⟨i, l, e⟩ : ∃ i l, r = i ++ [l] := by
          rcases List.eq_nil_or_concat r with z | ⟨i, l, z⟩
          · rw [er] at z; cases z
          · exact ⟨i, l, by rw [z, List.concat_eq_append]⟩
        rw [← er]
        have el : lo r = l + 1 := by rw [e, lo_snoc]
        have hat : atI (r.map D.int) (-1) = some (.int l) := by rw [e, List.map_append]; exact atI_snoc _ _
        have hne : dNe (.lst (r.map D.int)) (.lst []) = some (.bl true) := by
          have := dNe_L r []
          have h2 : decide (r = []) = false := by rw [er]; rfl
          rw [h2] at this; exact this
        have hr0 := rng_from (lo r) n
        rw [el] at hr0 hup hfl2 hlo
        simp [hne, hat, hn2, hlo, hr0, hup, hfl2, hl3]
    · rintro Γ ⟨x5, x6, rfl⟩
      simp [hnext]
      omega
  · rintro Γ ⟨_, x3, x4, x5, x6, rfl⟩
    simp [ptsOf]
/-! hits -/
def hitB (ps : List Int) (rows : List (List Int)) : Bool := rows.all fun r => r.any fun x => decide (x ∈ ps)
theorem hitB_iff {ps : List Int} {rows : List (List Int)} : hitB ps rows = true ↔ ∀ r ∈ rows, ∃ x ∈ r, x ∈ ps := by
  unfold hitB
  rw [List.all_eq_true]
  refine forall_congr' fun r => forall_congr' fun hr => ?_
  rw [List.any_eq_true]
  simp
theorem g_hit_eq {ps : List Int} {rows : List (List Int)} (hl : ∀ r ∈ rows, r.length ≤ 1000000) : g_hit [encI ps, encR rows] = .ok (.bl (hitB ps rows)) := by
  unfold g_hit; rw [runD_eq]; unfold m_hit
  simp [List.replicate]
  refine loopFindR encI (fun Γ => ∃ x2, Γ = [.sh (encI ps), .sh (.lst (rows.map encI)), x2, .no]) (fun r => !r.any fun x => decide (x ∈ ps)) (.bl false) rows ⟨_, rfl⟩ ?_ ?_ ?_
  · rintro r hr Γ ⟨x2, rfl⟩
    have h1 := hl r hr
    simp [h1]
    rw [compF_fil D.int fun x => decide (x ∈ ps)]
    rotate_left
    · intro v _; simp
    · intro v _; simp
    simp [dEq_nil]
    cases e : (r.filter fun x => decide (x ∈ ps)).isEmpty with
    | true =>
      have e2 : ∀ x ∈ r, x ∉ ps := by simpa using e
      simp
      exact e2
    | false =>
      have e2 : ∃ x ∈ r, x ∈ ps := by simpa using e
      simp
      exact e2
  · intro h
    have : hitB ps rows = false := by
      rw [Bool.eq_false_iff]; intro z
      obtain ⟨r, hr, q⟩ := List.any_eq_true.mp h
      rw [List.all_eq_true.mp z r hr] at q; cases q
    rw [this]
  · rintro Γ h ⟨x2, rfl⟩
    have : hitB ps rows = true := List.all_eq_true.mpr fun r hr => by
      have q := List.any_eq_false.mp h r hr
      simpa only [Bool.not_eq_true', Bool.not_eq_false] using q
    rw [this]; rfl
theorem hit_turn (ps : List Int) (rows : List (List Int)) : (rows.all fun r => ps.any fun x => decide (x ∈ r)) = hitB ps rows := by
  rw [Bool.eq_iff_iff, hitB_iff, List.all_eq_true]
  refine forall_congr' fun r => forall_congr' fun hr => ?_
  rw [List.any_eq_true]
  constructor
  · rintro ⟨x, h1, h2⟩; exact ⟨x, of_decide_eq_true h2, h1⟩
  · rintro ⟨x, h1, h2⟩; exact ⟨x, h2, decide_eq_true h1⟩
theorem g_law_hit_eq {ps : List Int} {rows : List (List Int)} (hp : ps.length ≤ 1000000) (hl : rows.length ≤ 1000000) : g_law_hit [encI ps, encR rows] = .ok (.bl (hitB ps rows)) := by
  unfold g_law_hit; rw [runD_eq]; unfold m_law_hit
  simp [List.replicate, hl]
  rw [compF_all encI D.bl fun r => ps.any fun x => decide (x ∈ r)]
  rotate_left
  · intro r _
    simp [hp]
    rw [compF_all D.int D.bl fun x => decide (x ∈ r)]
    rotate_left
    · intro x _; simp
    simp [-List.map_map]
  simp [-List.map_map]
  rw [← hit_turn]
end B

/-! SH2: the least hit. -/
namespace B
open PySem PySem.Spec PyProof.Rows L2 DL
def lchs : Nat → List (List Int)
  | 0 => [[]]
  | m + 1 => lchs m ++ (lchs m).map fun r => r ++ [(m : Int)]
theorem lchs_len : ∀ m, (lchs m).length = 2 ^ m
  | 0 => rfl
  | m + 1 => by
    show (lchs m ++ (lchs m).map _).length = _
    rw [List.length_append, List.length_map, lchs_len m]; omega
theorem mem_lchs : ∀ {m : Nat} {r : List Int}, r ∈ lchs m ↔ Ris m r
  | 0, r => by
    show r ∈ [[]] ↔ _
    rw [List.mem_singleton]
    constructor
    · rintro rfl; exact ⟨.nil, by simp⟩
    · intro h
      cases r with
      | nil => rfl
      | cons a b => have := h.ok a (by simp); omega
  | m + 1, r => by
    show r ∈ lchs m ++ (lchs m).map _ ↔ _
    rw [List.mem_append, mem_lchs, List.mem_map]
    constructor
    · rintro (h | ⟨s, h, rfl⟩)
      · exact ⟨h.inc, fun x hx => by have := h.ok x hx; omega⟩
      · have h := mem_lchs.mp h
        refine ⟨List.pairwise_append.mpr ⟨h.inc, by simp, fun x hx y hy => ?_⟩, fun x hx => ?_⟩
        · simp at hy; subst hy; exact (h.ok x hx).2
        · rcases List.mem_append.mp hx with z | z
          · have := h.ok x z; omega
          · simp at z; omega
    · intro h
      by_cases hm : (m : Int) ∈ r
      · rcases List.eq_nil_or_concat r with rfl | ⟨i, l, rfl⟩
        · cases hm
        · rw [List.concat_eq_append] at h hm ⊢
          have hl := h.ok l (by simp)
          have hp := (List.pairwise_append.mp h.inc).2.2
          have e : l = m := by
            rcases List.mem_append.mp hm with z | z
            · have := hp _ z l (by simp); omega
            · simp at z; omega
          subst e
          exact .inr ⟨i, mem_lchs.mpr ⟨(List.pairwise_append.mp h.inc).1, fun x hx => ⟨(h.ok x (by simp [hx])).1, hp x hx _ (by simp)⟩⟩, rfl⟩
      · refine .inl ⟨h.inc, fun x hx => ?_⟩
        have := h.ok x hx
        have : x ≠ m := fun z => hm (z ▸ hx)
        omega
theorem g_law_choices_eq {n : Int} (h : 1 ≤ n ∧ n ≤ 10) : g_law_choices [.int n] = .ok (encR (lchs n.toNat)) := by
  unfold g_law_choices; rw [runD_eq]; unfold m_law_choices
  have hn2 : n ≤ 1000000 ∧ -1000000 ≤ n := by omega
  simp [List.replicate, hn2, rng_pts]
  refine loopR D.int (fun pre Γ => ∃ x2, Γ = [.sh (.int n), .sh (encR (lchs pre.length)), x2, .no]) (ptsOf n) ⟨_, rfl⟩ ?_ ?_
  · rintro pre t post Γ hp ⟨x2, rfl⟩
    have hpl : pre.length < 10 ∧ t = pre.length := by
      have h1 := congrArg List.length hp
      have h2 := congrArg (fun z => z[pre.length]?) hp
      simp [ptsOf] at h1 h2
      have : (List.range n.toNat)[pre.length]? = some pre.length := List.getElem?_range (by omega)
      rw [this] at h2
      simp at h2
      omega
    obtain ⟨hpl, rfl⟩ := hpl
    have hrl : ∀ r ∈ lchs pre.length, r.length + 1 ≤ 1000000 := fun r hr => by
      have hr := mem_lchs.mp hr
      have h1 := nodup_sub_len (ys := ptsOf pre.length) (hr.inc.imp fun q => by omega) fun x hx => mem_ptsOf.mpr (hr.ok x hx)
      simp [ptsOf] at h1; omega
    have hll : (lchs pre.length).length ≤ 1024 := by
      rw [lchs_len]
      exact Nat.pow_le_pow_right (by decide) (show pre.length ≤ 10 by omega)
    have hl1 : (lchs pre.length).length ≤ 1000000 := by omega
    have hl2 : (lchs pre.length).length + (lchs pre.length).length ≤ 1000000 := by omega
    have hc := compF_all (i := 3) (f := eOp dAdd (eVar 3) (eLst (aCons (eVar 2) aNil))) (Γ := [.sh (.int n), .sh (encR (lchs pre.length)), .sh (.int pre.length), .no]) encI encI (fun r => r ++ [(pre.length : Int)]) (lchs pre.length) (fun r hr => by
      have := hrl r hr
      simp [this])
    simp [hl1, hl2, hc, -List.map_map]
    simp [lchs]
  · rintro Γ ⟨x2, rfl⟩
    simp [ptsOf]
/-- a loop that hands back something of the first that is found -/
theorem loop_first {i : Nat} {s : En → Out} {α : Type} (enc : α → D) (I : En → Prop) (p : α → Bool) (d : α → D) (xs : List α) (Γ : En) (h0 : I Γ)
    (hs : ∀ x ∈ xs, ∀ Γ, I Γ → (p x = true → ∃ Γ', s (Γ.set i (.sh (enc x))) = .ret (d x) Γ') ∧ (p x = false → ∃ Γ', (s (Γ.set i (.sh (enc x))) = .nx Γ' ∨ s (Γ.set i (.sh (enc x))) = .ct Γ') ∧ I Γ')) :
    (∃ pre x post Γ', xs = pre ++ x :: post ∧ (∀ y ∈ pre, p y = false) ∧ p x = true ∧ loopF (bN i) s (xs.map enc) Γ = .ret (d x) Γ') ∨ ((∀ x ∈ xs, p x = false) ∧ ∃ Γ', loopF (bN i) s (xs.map enc) Γ = .nx Γ' ∧ I Γ') := by
  induction xs generalizing Γ with
  | nil => exact .inr ⟨by simp, Γ, rfl, h0⟩
  | cons x r ih =>
    obtain ⟨h1, h2⟩ := hs x (by simp) Γ h0
    rw [List.map_cons, loopF_N]
    cases e : p x with
    | true =>
      obtain ⟨Γ', q⟩ := h1 e
      exact .inl ⟨[], x, r, Γ', rfl, by simp, e, by rw [q]; rfl⟩
    | false =>
      obtain ⟨Γ1, q, hq⟩ := h2 e
      have er : ∀ o, loopF (bN i) s (r.map enc) Γ1 = o → (s (Γ.set i (.sh (enc x)))).loop (loopF (bN i) s (r.map enc)) = o := fun o ho => by rcases q with q | q <;> rw [q] <;> exact ho
      rcases ih Γ1 hq fun y hy => hs y (by simp [hy]) with ⟨pre, y, post, Γ', e1, e2, e3, e4⟩ | ⟨e1, Γ', e2, e3⟩
      · refine .inl ⟨x :: pre, y, post, Γ', by rw [e1]; rfl, fun z hz => ?_, e3, er _ e4⟩
        rcases List.mem_cons.mp hz with k | k
        · rw [k]; exact e
        · exact e2 z k
      · refine .inr ⟨fun z hz => ?_, Γ', er _ e2, e3⟩
        rcases List.mem_cons.mp hz with k | k
        · rw [k]; exact e
        · exact e1 z k
/-- what least_hit tells -/
structure LHit (n : Int) (rows : List (List Int)) (s : Int) : Prop where
  lo : 1 ≤ s
  hi : s ≤ n
  less : ∀ ps, Ris n ps → 1 ≤ ps.length → (ps.length : Int) < s → hitB ps rows = false
  at' : s < n → ∃ ps, Ris n ps ∧ (ps.length : Int) = s ∧ hitB ps rows = true
theorem g_least_hit_eq {n : Int} {es : Ties} {rows : List (List Int)} (h : Web n es) (hd : Thg (encR rows)) (ht : thkB n es (encR rows) = true) : ∃ s, g_least_hit [.int n, encT es, encR rows] = .ok (.int s) ∧ LHit n rows s := by
  unfold g_least_hit
  simp only [runD_eq]; unfold m_least_hit
  have hthk := g_is_thicket_eq h hd
  rw [ht] at hthk
  have h1 := h.lo
  have h2 := h.hi
  have hn2 : n ≤ 1000000 ∧ -1000000 ≤ n := by omega
  have hrl : ∀ r ∈ rows, r.length ≤ 1000000 := fun r hr => by
    have := ((hd.ln _ rfl).2 (encI r) (List.mem_map.mpr ⟨r, hr, rfl⟩)).2 _ rfl
    simp at this; omega
  have hrg : rng 1 (n.toNat - 1) = (ptsFrom 1 n).map D.int := by rw [← rng_from 1 n]; congr 1; omega
  simp [List.replicate, hthk, hn2, hrg]
  have hstep := loop_first (i := 3) (s := sFor (iL (eCall g_choices (aCons (eVar 0) (aCons (eVar 3) aNil)))) (bN 4) (sIf (tst (eCall g_hit (aCons (eVar 4) (aCons (eVar 2) aNil)))) (sRet (eVar 3)) sNil)) D.int (fun Γ => ∃ x3 x4, Γ = [.sh (.int n), .sh (encT es), .sh (encR rows), x3, x4]) (fun k => (chs n k.toNat).any fun ps => hitB ps rows) (fun k => D.int k) (ptsFrom 1 n) [.sh (.int n), .sh (encT es), .sh (encR rows), .no, .no] ⟨_, _, rfl⟩ (by
    rintro k hk Γ ⟨x3, x4, rfl⟩
    obtain ⟨q1, q2⟩ := mem_from.mp hk
    obtain ⟨j, rfl⟩ : ∃ j : Nat, k = j := ⟨k.toNat, by omega⟩
    have hch := g_choices_eq (n := n) (k := j) ⟨h1, h2⟩ (by omega)
    simp only [Int.toNat_natCast]
    simp [hch, -List.any_eq_true, -List.any_eq_false]
    have hf := loop_find (i := 4) (s := sIf (tst (eCall g_hit (aCons (eVar 4) (aCons (eVar 2) aNil)))) (sRet (eVar 3)) sNil) encI (fun Γ => ∃ x4, Γ = [.sh (.int n), .sh (encT es), .sh (encR rows), .sh (.int j), x4]) (fun ps => hitB ps rows) (D.int j) (chs n j) [.sh (.int n), .sh (encT es), .sh (encR rows), .sh (.int j), x4] ⟨_, rfl⟩ (by
      rintro ps hps Γ ⟨x4, rfl⟩
      have hh := g_hit_eq (ps := ps) hrl
      cases e : hitB ps rows <;> rw [e] at hh <;> simp [hh]
      all_goals exact ⟨_, rfl⟩)
    refine ⟨hf.1, fun z => ?_⟩
    obtain ⟨Γ', e1, x4, rfl⟩ := hf.2 z
    exact ⟨_, .inl e1, _, _, rfl⟩)
  rcases hstep with ⟨pre, k, post, Γ', e1, e2, e3, e4⟩ | ⟨e1, Γ', e2, x3, x4, rfl⟩
  · have hk := mem_from.mp (show k ∈ ptsFrom 1 n by rw [e1]; simp)
    refine ⟨k, by rw [e4]; rfl, hk.1, by omega, fun ps hp hl1 hl2 => ?_, fun _ => ?_⟩
    · have hj : (ps.length : Int) ∈ pre := by
        have hm : (ps.length : Int) ∈ ptsFrom 1 n := mem_from.mpr (by omega)
        have hinc := from_inc 1 n
        rw [e1] at hm hinc
        rcases List.mem_append.mp hm with z | z
        · exact z
        · rcases List.mem_cons.mp z with z | z
          · omega
          · have := (List.pairwise_cons.mp (List.pairwise_append.mp hinc).2.1).1 _ z
            omega
      have := List.any_eq_false.mp (e2 _ hj) ps (by rw [Int.toNat_natCast]; exact mem_chs.mpr ⟨hp, rfl⟩)
      simpa using this
    · obtain ⟨ps, hp, hh⟩ := List.any_eq_true.mp e3
      obtain ⟨hr, hl⟩ := mem_chs.mp hp
      exact ⟨ps, hr, by omega, hh⟩
  · refine ⟨n, by rw [e2]; rfl, h1, Int.le_refl _, fun ps hp hl1 hl2 => ?_, fun z => absurd z (by omega)⟩
    have := List.any_eq_false.mp (e1 ps.length (mem_from.mpr (by omega))) ps (by rw [Int.toNat_natCast]; exact mem_chs.mpr ⟨hp, rfl⟩)
    simpa using this
end B

/-! SH3: the law's look at the least hit. -/
namespace B
open PySem PySem.Spec PyProof.Rows L2 DL
structure DueS (h : Int → Int → Bool) (P : Int → Int → Prop) (d : Int) : Prop where
  rg : d = 1 ∨ d = 2 ∨ d = 3
  one : d = 1 ↔ ∃ a, P a a ∧ h a a = true
  two : d ≤ 2 ↔ ∃ a b, P a b ∧ h a b = true
theorem DueS.congr {h : Int → Int → Bool} {P Q : Int → Int → Prop} {d : Int} (w : DueS h P d) (e : ∀ a b, P a b ↔ Q a b) : DueS h Q d := by
  have : P = Q := by funext a b; exact propext (e a b)
  rw [← this]; exact w
theorem DueS.no {h : Int → Int → Bool} {P : Int → Int → Prop} {d a b : Int} (w : DueS h P d) (hn : h a b = false) : DueS h (fun x y => P x y ∨ (x = a ∧ y = b)) d := by
  refine ⟨w.rg, w.one.trans ⟨fun ⟨x, p, q⟩ => ⟨x, .inl p, q⟩, ?_⟩, w.two.trans ⟨fun ⟨x, y, p, q⟩ => ⟨x, y, .inl p, q⟩, ?_⟩⟩
  · rintro ⟨x, p | ⟨rfl, e⟩, q⟩
    · exact ⟨x, p, q⟩
    · subst e; rw [hn] at q; cases q
  · rintro ⟨x, y, p | ⟨rfl, rfl⟩, q⟩
    · exact ⟨x, y, p, q⟩
    · rw [hn] at q; cases q
theorem DueS.yes {h : Int → Int → Bool} {P : Int → Int → Prop} {d a b e : Int} (w : DueS h P d) (hn : h a b = true) (hab : a ≤ b) (he : e = 1 + (if a < b then 1 else 0)) : DueS h (fun x y => P x y ∨ (x = a ∧ y = b)) (if e < d then e else d) := by
  have hr := w.rg
  have he2 : (a < b ∧ e = 2) ∨ (a = b ∧ e = 1) := by
    by_cases z : a < b
    · rw [if_pos z] at he; exact .inl ⟨z, by omega⟩
    · rw [if_neg z] at he; exact .inr ⟨by omega, by omega⟩
  refine ⟨?_, ⟨?_, ?_⟩, ⟨fun _ => ⟨a, b, .inr ⟨rfl, rfl⟩, hn⟩, fun _ => ?_⟩⟩
  · split <;> omega
  · intro z
    rcases he2 with ⟨c1, c2⟩ | ⟨c1, c2⟩
    · have : d = 1 := by split at z <;> omega
      obtain ⟨x, p, q⟩ := w.one.mp this
      exact ⟨x, .inl p, q⟩
    · exact ⟨a, .inr ⟨rfl, c1⟩, by rw [← c1] at hn; exact hn⟩
  · rintro ⟨x, p | ⟨rfl, q⟩, hh⟩
    · have := w.one.mpr ⟨x, p, hh⟩
      split <;> omega
    · split <;> omega
  · split <;> omega
theorem hit_nil {rows : List (List Int)} (h : rows ≠ []) : hitB [] rows = false := by
  rw [Bool.eq_false_iff]; intro z
  rw [hitB_iff] at z
  cases rows with
  | nil => exact h rfl
  | cons r t => obtain ⟨x, _, q⟩ := z r (by simp); cases q
theorem hit_same (a : Int) (rows : List (List Int)) : hitB [a, a] rows = hitB [a] rows := by
  rw [Bool.eq_iff_iff, hitB_iff, hitB_iff]; simp
theorem pts_ris (n : Int) : Ris n (ptsOf n) := ⟨by unfold ptsOf; rw [List.pairwise_map]; exact List.pairwise_lt_range.imp fun h => by omega, fun x hx => mem_ptsOf.mp hx⟩
theorem ris_len {n : Int} {r : List Int} (h : Ris n r) : r.length ≤ n.toNat := by
  have h1 := nodup_sub_len (ys := ptsOf n) (h.inc.imp fun q => by omega) fun x hx => mem_ptsOf.mpr (h.ok x hx)
  simp [ptsOf] at h1; omega
theorem g_law_least_right_eq {n s : Int} {rows : List (List Int)} (h1 : 1 ≤ n) (h2 : n ≤ 10) (hl : rows.length ≤ 1000) (hne : rows ≠ []) (hrow : ∀ r ∈ rows, r ≠ [] ∧ ∀ x ∈ r, 0 ≤ x ∧ x < n) (w : LHit n rows s) : g_law_least_right [.int n, encR rows, .int s] = .ok (.bl true) := by
  unfold g_law_least_right
  simp only [runD_eq]; unfold m_law_least_right
  have hl2 : rows.length ≤ 1000000 := by omega
  by_cases h8 : n < 8
  · have hch := g_law_choices_eq (n := n) ⟨h1, h2⟩
    have hcl : (lchs n.toNat).length ≤ 1000000 := by
      have : (lchs n.toNat).length ≤ 1024 := by
        rw [lchs_len]
        exact Nat.pow_le_pow_right (by decide) (show n.toNat ≤ 10 by omega)
      omega
    have hmem : ∀ r, r ∈ lchs n.toNat ↔ Ris n r := fun r => by rw [mem_lchs, Int.toNat_of_nonneg (by omega)]
    have hc := compF_map (i := 3) (c := tst (eCall g_law_hit (aCons (eVar 3) (aCons (eVar 1) aNil)))) (f := eCB dLen (aCons (eVar 3) aNil)) [.sh (.int n), .sh (encR rows), .sh (.int s), .no, .no, .no, .no] encI D.int (fun r => hitB r rows) (fun r => (r.length : Int)) (lchs n.toNat) (fun r hr => by
      have hrl := ris_len ((hmem r).mp hr)
      have := g_law_hit_eq (ps := r) (rows := rows) (by omega) hl2
      simp [this]) (fun r hr _ => by simp)
    obtain ⟨L, hL⟩ : ∃ L, L = ((lchs n.toNat).filter fun r => hitB r rows).map fun r => (r.length : Int) := ⟨_, rfl⟩
    rw [← hL] at hc
    have hm : ∀ k : Int, k ∈ L ↔ ∃ r, Ris n r ∧ hitB r rows = true ∧ (r.length : Int) = k := fun k => by
      rw [hL, List.mem_map]
      constructor
      · rintro ⟨r, hr, e⟩
        obtain ⟨q1, q2⟩ := List.mem_filter.mp hr
        exact ⟨r, (hmem r).mp q1, q2, e⟩
      · rintro ⟨r, q1, q2, e⟩
        exact ⟨r, List.mem_filter.mpr ⟨(hmem r).mpr q1, q2⟩, e⟩
    have hfull : (n : Int) ∈ L := (hm n).mpr ⟨ptsOf n, pts_ris n, hitB_iff.mpr fun r hr => by
      obtain ⟨q1, q2⟩ := hrow r hr
      cases r with
      | nil => exact absurd rfl q1
      | cons a b => exact ⟨a, by simp, mem_ptsOf.mpr (q2 a (by simp))⟩, by simp [ptsOf]; omega⟩
    have hLn : L ≠ [] := fun z => by rw [z] at hfull; cases hfull
    obtain ⟨m1, m2⟩ := minL_spec hLn
    have hs : s = minL L := by
      have hsL : s ∈ L := by
        by_cases z : s < n
        · obtain ⟨ps, q1, q2, q3⟩ := w.at' z
          exact (hm s).mpr ⟨ps, q1, q3, q2⟩
        · have := w.hi
          have : s = n := by omega
          rw [this]; exact hfull
      have hge : ∀ k ∈ L, s ≤ k := fun k hk => by
        obtain ⟨r, q1, q2, rfl⟩ := (hm k).mp hk
        refine Classical.byContradiction fun z => ?_
        have : 1 ≤ r.length := by
          cases r with
          | nil => rw [hit_nil hne] at q2; cases q2
          | cons a b => simp
        rw [w.less r q1 this (by omega)] at q2; cases q2
      have := m2 s hsL
      have := hge _ m1
      omega
    simp [List.replicate, h8, hch, hcl, hc, hLn, ← hs]
  · have hn2 : n ≤ 1000000 ∧ -1000000 ≤ n := by omega
    simp [List.replicate, h8, hn2, rng_pts]
    refine loopR D.int (fun pre Γ => ∃ d x5 x6, DueS (fun a b => hitB [a, b] rows) (fun a b => a ∈ pre ∧ a ≤ b ∧ b < n) d ∧ Γ = [.sh (.int n), .sh (encR rows), .sh (.int s), .no, .sh (.int d), x5, x6]) (ptsOf n) ⟨3, _, _, ⟨by omega, by simp, by simp⟩, rfl⟩ ?_ ?_
    · rintro pre a post Γ hp ⟨d, x5, x6, hd, rfl⟩
      have ha := mem_ptsOf.mp (show a ∈ ptsOf n by rw [hp]; simp)
      have ha2 : a ≤ 1000000 ∧ -1000000 ≤ a := by omega
      have hrg := rng_from a n
      simp [hn2, ha2, hrg]
      refine loopX0 D.int (fun pre2 Γ => ∃ d x6, DueS (fun a b => hitB [a, b] rows) (fun x y => (x ∈ pre ∧ x ≤ y ∧ y < n) ∨ (x = a ∧ y ∈ pre2)) d ∧ Γ = [.sh (.int n), .sh (encR rows), .sh (.int s), .no, .sh (.int d), .sh (.int a), x6]) (ptsFrom a n) ⟨d, _, hd.congr fun x y => by simp, rfl⟩ ?_ ?_
      · rintro pre2 b post2 Γ hp2 ⟨d, x6, hd, rfl⟩
        have hb := mem_from.mp (show b ∈ ptsFrom a n by rw [hp2]; simp)
        have hh := g_law_hit_eq (ps := [a, b]) (rows := rows) (by simp) hl2
        have e1 : encI [a, b] = .lst [.int a, .int b] := rfl
        rw [e1] at hh
        cases e : hitB [a, b] rows with
        | false =>
          rw [e] at hh
          simp [hh]
          exact (hd.no (a := a) (b := b) e).congr fun x y => by grind
        | true =>
          rw [e] at hh
          simp [hh]
          exact (hd.yes (a := a) (b := b) e hb.1 rfl).congr fun x y => by grind
      · rintro Γ ⟨d, x6, hd, rfl⟩
        refine ⟨d, hd.congr fun x y => ?_, _, _, rfl⟩
        rw [mem_from]
        grind
    · rintro Γ ⟨d, x5, x6, hd, rfl⟩
      have hd : DueS (fun a b => hitB [a, b] rows) (fun a b => 0 ≤ a ∧ a ≤ b ∧ b < n) d := hd.congr fun x y => by rw [mem_ptsOf]; grind
      have hlo := w.lo
      have hhi := w.hi
      have s1 : s = 1 → d = 1 := fun z => by
        obtain ⟨ps, q1, q2, q3⟩ := w.at' (by omega)
        match ps, q1, q2, q3 with
        | [x], q1, _, q3 =>
          have := q1.ok x (by simp)
          exact hd.one.mpr ⟨x, by omega, by rw [← q3]; exact hit_same x rows⟩
        | [], _, q2, _ => simp at q2; omega
        | _ :: _ :: _, _, q2, _ => simp at q2; omega
      have s2 : s = 2 → d ≤ 2 := fun z => by
        obtain ⟨ps, q1, q2, q3⟩ := w.at' (by omega)
        match ps, q1, q2, q3 with
        | [x, y], q1, _, q3 =>
          have hx := q1.ok x (by simp)
          have hy := q1.ok y (by simp)
          have hxy : x < y := by have := q1.inc; simpa using this
          exact hd.two.mpr ⟨x, y, by omega, q3⟩
        | [], _, q2, _ => simp at q2; omega
        | [_], _, q2, _ => simp at q2; omega
        | _ :: _ :: _ :: _, _, q2, _ => simp at q2; omega
      have d1 : d = 1 → s = 1 := fun z => by
        obtain ⟨x, q1, q2⟩ := hd.one.mp z
        refine Classical.byContradiction fun k => ?_
        have := w.less [x] ⟨by simp, by simp; omega⟩ (by simp) (by simp; omega)
        rw [hit_same] at q2
        rw [this] at q2; cases q2
      have d2 : d ≤ 2 → s ≤ 2 := fun z => by
        obtain ⟨x, y, q1, q2⟩ := hd.two.mp z
        refine Classical.byContradiction fun k => ?_
        by_cases e : x = y
        · subst e
          have := w.less [x] ⟨by simp, by simp; omega⟩ (by simp) (by simp; omega)
          rw [hit_same] at q2
          rw [this] at q2; cases q2
        · have := w.less [x, y] ⟨by simp; omega, by simp; omega⟩ (by simp) (by simp; omega)
          rw [this] at q2; cases q2
      have hr := hd.rg
      by_cases c : s = d
      · simp [c]
      · have c3 : d = 3 := by omega
        have c4 : 3 ≤ s := by omega
        have c5 : ¬ s = 3 := by omega
        simp [c5, c3, c4, hhi]
end B

/-! SJ: pieces grown. -/
namespace B
open PySem PySem.Spec PyProof.Rows L2 DL
@[simp] theorem dNe_bb (a b : Bool) : dNe (.bl a) (.bl b) = some (.bl (a != b)) := by cases a <;> cases b <;> rfl
@[simp] theorem dEq_bb (a b : Bool) : dEq (.bl a) (.bl b) = some (.bl (a == b)) := by cases a <;> cases b <;> rfl
theorem loopX2 {i j : Nat} {s t : En → Out} {Γ : En} (I : List (Int × Int) → En → Prop) (xs : List (Int × Int)) {J : En → Prop} (h0 : I [] Γ)
    (hs : ∀ pre x y post Γ, xs = pre ++ (x, y) :: post → I pre Γ → ∃ Γ', (s ((Γ.set i (.sh (.int x))).set j (.sh (.int y))) = .nx Γ' ∨ s ((Γ.set i (.sh (.int x))).set j (.sh (.int y))) = .ct Γ') ∧ I (pre ++ [(x, y)]) Γ') (hk : ∀ Γ', I xs Γ' → ∃ Γ'', (t Γ' = .nx Γ'' ∨ t Γ' = .ct Γ'') ∧ J Γ'') :
    ∃ Γ'', ((loopF (b2 i j) s (xs.map encP) Γ).seq t = .nx Γ'' ∨ (loopF (b2 i j) s (xs.map encP) Γ).seq t = .ct Γ'') ∧ J Γ'' := by
  obtain ⟨Γ', e, h⟩ := loop_all2 I xs Γ h0 hs
  rw [e]; exact hk Γ' h
/-- a drawn piece -/
structure Pce (n : Int) (m : Nat) (r : List Int) : Prop where
  ne : r ≠ []
  len : r.length ≤ m
  ok : ∀ x ∈ r, 0 ≤ x ∧ x < n
theorem Pce.snoc {n : Int} {m : Nat} {r : List Int} {x : Int} (h : Pce n m r) (hx : 0 ≤ x ∧ x < n) : Pce n (m + 1) (r ++ [x]) :=
  ⟨by simp, by have := h.len; simp; omega, fun y hy => by
    rcases List.mem_append.mp hy with z | z
    · exact h.ok y z
    · simp at z; rw [z]; exact hx⟩
theorem Pce.sorted {n : Int} {m : Nat} {r : List Int} (h : Pce n m r) : Pce n m (srt r) := by
  have hl := (srt_perm r).length_eq
  refine ⟨fun z => h.ne ?_, by rw [hl]; exact h.len, fun x hx => h.ok x (mem_srt.mp hx)⟩
  rw [z] at hl
  exact List.eq_nil_of_length_eq_zero hl.symm
theorem grown_ex {n c : Int} {es : Ties} (h : Web n es) : ∃ r, Pce n 4 r ∧ g_law_grown [.int c, .int n, encT es] = .ok (encI r) := by
  unfold g_law_grown
  simp only [runD_eq]; unfold m_law_grown
  have h1 := h.lo
  have h2 := h.hi
  have hel := h.len
  have hn : 0 < n ∧ n < 2 ^ 64 := by omega
  obtain ⟨m, hm⟩ : ∃ m, m = c / n := ⟨_, rfl⟩
  have hr : m % 4 ≤ 1000000 ∧ -1000000 ≤ m % 4 := by omega
  have hn1 : n < 18446744073709551616 := by omega
  simp [List.replicate, hn.1, hn1, ← hm, hr, rng_pts]
  have hlp := loop_all (i := 5) D.int (s := (sSeq (sSet 4 (eOp dFdiv (eVar 4) (eC (.int 4)))) (sSeq (sOwn 6 (fLst aNil)) (sSeq (sFor (iL (eVar 2)) (b2 7 8) (sIf (tst (eOp dNe (eBor [3] (eOp dIn (eVar 7) (eVar 3))) (eBor [3] (eOp dIn (eVar 8) (eVar 3))))) (sAppend 6 (eOp dIx (eLst (aCons (eVar 8) (aCons (eVar 7) aNil))) (eCB dInt (aCons (eBor [3] (eOp dIn (eVar 8) (eVar 3))) aNil)))) sNil)) (sIf (bBor [6] (tst (eOp dNe (eVar 6) (eLst aNil)))) (sFrz [6] (sAppend 3 (eOp dIx (eL (fCB dSorted (aCons (eVar 6) aNil))) (eOp dMod (eVar 4) (eCB dLen (aCons (eVar 6) aNil)))))) sNil)))))
    (fun pre Γ => ∃ r more x5 x6 x7 x8, Pce n (pre.length + 1) r ∧ Γ = [.sh (.int c), .sh (.int n), .sh (encT es), .ol (r.map D.int), .sh (.int more), x5, x6, x7, x8]) (ptsOf (m % 4)) [.sh (.int c), .sh (.int n), .sh (encT es), .ol [.int (c % n)], .sh (.int m), .no, .no, .no, .no] ⟨[c % n], m, _, _, _, _, ⟨by simp, by simp, fun x hx => by simp at hx; subst hx; exact ⟨Int.emod_nonneg c (by omega), Int.emod_lt_of_pos c hn.1⟩⟩, rfl⟩ (by
    rintro pre t post Γ hp ⟨r, more, x5, x6, x7, x8, hP, rfl⟩
    have hpl : pre.length < 3 := by
      have h1 := congrArg List.length hp
      simp [ptsOf] at h1; omega
    have hrl := hP.len
    simp
    refine loopX2 (fun pre2 Γ => ∃ bs x7 x8, bs.length ≤ pre2.length ∧ (∀ x ∈ bs, 0 ≤ x ∧ x < n) ∧ Γ = [.sh (.int c), .sh (.int n), .sh (encT es), .ol (r.map D.int), .sh (.int (more / 4)), .sh (.int t), .ol (bs.map D.int), x7, x8]) es ⟨[], _, _, by simp, by simp, rfl⟩ ?_ ?_
    · rintro pre2 a b post2 Γ hp2 ⟨bs, x7, x8, hbl, hbs, rfl⟩
      have hab := h.ok (a, b) (by rw [hp2]; simp)
      have hl2 := congrArg List.length hp2
      simp at hl2
      have hbl2 : bs.length < 1000000 := by omega
      by_cases ha : a ∈ r <;> by_cases hb : b ∈ r
      · simp [ha, hb]
        exact ⟨bs, by omega, hbs, by simp⟩
      · simp [ha, hb, hbl2]
        exact ⟨bs ++ [b], by simp; omega, fun x hx => by
          rcases List.mem_append.mp hx with z | z
          · exact hbs x z
          · simp at z; omega, by simp⟩
      · simp [ha, hb, hbl2]
        exact ⟨bs ++ [a], by simp; omega, fun x hx => by
          rcases List.mem_append.mp hx with z | z
          · exact hbs x z
          · simp at z; omega, by simp⟩
      · simp [ha, hb]
        exact ⟨bs, by omega, hbs, by simp⟩
    · rintro Γ ⟨bs, x7, x8, hbl, hbs, rfl⟩
      have hne : dNe (.lst (bs.map D.int)) (.lst []) = some (.bl (!decide (bs = []))) := dNe_L bs []
      by_cases e : bs = []
      · subst e
        have e0 : dNe (.lst []) (.lst []) = some (.bl false) := rfl
        simp [e0]
        exact ⟨r, by have := hP.len; exact ⟨hP.ne, by omega, hP.ok⟩, rfl⟩
      · have hbl3 : 0 < bs.length := List.length_pos_iff.mpr e
        obtain ⟨x, hx, ex⟩ := atI_in (xs := srt bs) (i := (more / 4) % (bs.length : Int)) (Int.emod_nonneg _ (by omega)) (by rw [(srt_perm bs).length_eq]; exact Int.emod_lt_of_pos _ (by omega))
        have hat : atI ((srt bs).map D.int) ((more / 4) % (bs.length : Int)) = some (.int x) := by
          unfold atI at ex ⊢
          rw [List.length_map]
          obtain ⟨j, e1, e2⟩ := Option.bind_eq_some_iff.mp ex
          rw [e1]
          show ((srt bs).map D.int)[j]? = _
          rw [List.getElem?_map, e2]; rfl
        have hrl2 : r.length < 1000000 := by omega
        simp [hne, e, hat, hrl2, hbl3]
        exact ⟨r ++ [x], hP.snoc (hbs x (mem_srt.mp hx)), by simp⟩)
  obtain ⟨Γ', e, r, more, x5, x6, x7, x8, hP, rfl⟩ := hlp
  refine ⟨srt r, ?_, ?_⟩
  · have hl : (ptsOf (m % 4)).length ≤ 3 := by simp [ptsOf]; omega
    have := hP.len
    exact Pce.sorted ⟨hP.ne, by omega, hP.ok⟩
  · rw [e]
    simp
theorem pieces_ex {n : Int} {es : Ties} {ns : List Int} (h : Web n es) : ∃ made, made ≠ [] ∧ made.length ≤ 6 ∧ (∀ r ∈ made, Pce n 4 r) ∧ g_law_pieces [.scr ns, .int n, encT es] = .ok (encR made) := by
  unfold g_law_pieces
  simp only [runD_eq]; unfold m_law_pieces
  have hc1 := g_law_cell_at_eq ns 1
  simp at hc1
  have hlt : ∀ p ∈ es, p.1 < p.2 := fun p hp => (h.ok p hp).2.1
  obtain ⟨m, hm⟩ : ∃ m, m = 1 + cellAt ns 1 % 6 := ⟨_, rfl⟩
  obtain ⟨w, hw⟩ : ∃ w, w = cellAt ns 1 / 6 % 3 := ⟨_, rfl⟩
  have hm1 : 1 ≤ m ∧ m ≤ 6 := by omega
  have hm2 : m ≤ 1000000 ∧ -1000000 ≤ m := by omega
  simp [List.replicate, hc1, ← hm, hm2, rng_pts]
  have hlp := loop_all (i := 4) D.int (s := (sSeq (sSet 5 (eCall g_law_grown (aCons (eCall g_law_cell_at (aCons (eVar 0) (aCons (eOp dAdd (eC (.int 22)) (eVar 4)) aNil))) (aCons (eVar 1) (aCons (eVar 2) aNil))))) (sBorIf [3] 6 (eOp dIx (eLst (aCons (eLst aNil) (aCons (eVar 3) (aCons (eL (fSl (eVar 3) (oE (eNeg (eC (.int 1)))) oNo)) aNil)))) (eOp dMod (eOp dFdiv (eCall g_law_cell_at (aCons (eVar 0) (aCons (eC (.int 1)) aNil))) (eC (.int 6))) (eC (.int 3)))) (tst (eCB dAll (aCons (eL (fComp [7] (iL (eVar 6)) (bN 7) bYes (eCall g_law_touch (aCons (eVar 2) (aCons (eVar 5) (aCons (eVar 7) aNil)))))) aNil))) (sAppend 3 (eVar 5)) sNil)))
    (fun pre Γ => ∃ made x4 x5 x6, (pre ≠ [] → made ≠ []) ∧ made.length ≤ pre.length ∧ (∀ r ∈ made, Pce n 4 r) ∧ Γ = [.sh (.scr ns), .sh (.int n), .sh (encT es), .ol (made.map encI), x4, x5, x6, .no]) (ptsOf m) [.sh (.scr ns), .sh (.int n), .sh (encT es), .ol [], .no, .no, .no, .no] ⟨[], _, _, _, by simp, by simp, by simp, rfl⟩ (by
    rintro pre k post Γ hp ⟨made, x4, x5, x6, hne, hl, hP, rfl⟩
    have hk := mem_ptsOf.mp (show k ∈ ptsOf m by rw [hp]; simp)
    have hpl : pre.length < 6 := by
      have h1 := congrArg List.length hp
      simp [ptsOf] at h1; omega
    obtain ⟨j, hj⟩ : ∃ j : Nat, (22 + k : Int) = j := ⟨(22 + k).toNat, by omega⟩
    have hc := g_law_cell_at_eq ns j
    obtain ⟨r, hr, hg⟩ := grown_ex (c := cellAt ns j) h
    obtain ⟨A, hA, hat, hA0⟩ : ∃ A : List (List Int), (∀ a ∈ A, Pce n 4 a) ∧ atI [D.lst [], D.lst (made.map encI), D.lst (DL.cutD (made.map encI) (some (-1)) none)] w = some (D.lst (A.map encI)) ∧ (A ≠ [] → made ≠ []) ∧ A.length ≤ made.length := by
      rcases (show w = 0 ∨ w = 1 ∨ w = 2 by omega) with z | z | z
      · rw [z]; exact ⟨[], by simp, rfl, by simp, by simp⟩
      · rw [z]; exact ⟨made, hP, rfl, id, by simp⟩
      · rw [z]
        refine ⟨DL.cutD made (some (-1)) none, fun a ha => hP a ?_, by rw [cutD_map]; rfl, fun z q => z ?_, ?_⟩
        · unfold DL.cutD at ha
          exact List.mem_of_mem_drop (List.mem_of_mem_take ha)
        · rw [q]; rfl
        · unfold DL.cutD; simp; omega
    have hAl : A.length ≤ 1000000 := by omega
    have hcmp := compF_all (i := 7) (f := eCall g_law_touch (aCons (eVar 2) (aCons (eVar 5) (aCons (eVar 7) aNil)))) (Γ := [.sh (.scr ns), .sh (.int n), .sh (encT es), .sh (.lst (made.map encI)), .sh (.int k), .sh (encI r), .sh (.lst (A.map encI)), .no]) encI D.bl (fun b => tchB es r b) A (fun b hb => by
      have := (hA b hb).len
      have := g_law_touch_eq (a := r) (b := b) hlt (by omega)
      simp [this])
    have hml : made.length < 1000000 := by omega
    simp [hj, hc, hc1, hg, ← hw, hat, hAl, hcmp, -List.map_map, -List.all_eq_true, -List.all_eq_false]
    cases q : (A.all fun b => tchB es r b) with
    | true =>
      simp [hml]
      exact ⟨made ++ [r], by simp, by simp; omega, fun a ha => by
        rcases List.mem_append.mp ha with z | z
        · exact hP a z
        · simp at z; rw [z]; exact hr, by simp⟩
    | false =>
      have hAne : A ≠ [] := fun z => by rw [z] at q; simp at q
      simp
      exact ⟨made, by have := hA0.1 hAne; simpa using this, by omega, hP, rfl⟩)
  obtain ⟨Γ', e, made, x4, x5, x6, hne, hl, hP, rfl⟩ := hlp
  have hl2 : (ptsOf m).length ≤ 6 ∧ 1 ≤ (ptsOf m).length := by simp [ptsOf]; omega
  refine ⟨made, hne fun z => by rw [z] at hl2; simp at hl2, by omega, hP, ?_⟩
  rw [e]
  simp
end B

/-! MA: how many pieces; forests. -/
namespace B
open PySem PySem.Spec PyProof.Rows L2 DL
theorem snoc_ind {α : Type} {P : List α → Prop} (h0 : P []) (hs : ∀ xs x, P xs → P (xs ++ [x])) : ∀ xs, P xs := fun xs => by
  have : ∀ ys : List α, P ys.reverse := fun ys => by
    induction ys with
    | nil => exact h0
    | cons y r ih => rw [List.reverse_cons]; exact hs _ _ ih
  have := this xs.reverse
  rwa [List.reverse_reverse] at this
theorem lab_ex (S : List Int) : ∀ es : Ties, ∃ l, Lab es S l := snoc_ind ⟨_, Lab.nil⟩ fun es p ⟨l, h⟩ => by
  obtain ⟨x, y⟩ := p
  by_cases hm : x ∈ S ∧ y ∈ S
  · exact ⟨_, h.step hm.1 hm.2 _ _ rfl rfl⟩
  · exact ⟨_, h.out hm⟩
def cnt (S : List Int) (l : Int → Int) : Nat := (S.filter fun p => decide (l p = p)).length
theorem Lab.least {es : Ties} {S : List Int} {l : Int → Int} (h : Lab es S l) {p : Int} (hp : p ∈ S) : l p = p ↔ ∀ q ∈ S, Con es S p q → p ≤ q := by
  have m := h p hp
  constructor
  · intro e q _ c
    have := m.2 q c
    omega
  · intro k
    have h1 := m.2 p (.refl hp)
    have h2 := k _ m.1.right m.1
    omega
theorem comps_cnt {es : Ties} {S : List Int} {l : Int → Int} (h : Lab es S l) : (comps es S).length = cnt S l := by
  classical
  unfold comps cnt
  rw [List.length_map]
  have e : (srt S).filter (fun p => decide (∀ q ∈ S, Con es S p q → p ≤ q)) = (srt S).filter (fun p => decide (l p = p)) := by
    refine List.filter_congr fun p hp => ?_
    rw [decide_eq_decide]
    exact (h.least (mem_srt.mp hp)).symm
  rw [e]
  exact ((srt_perm S).filter _).length_eq
theorem filter_one {S : List Int} {P Q : Int → Bool} {m : Int} (nd : S.Nodup) (hm : m ∈ S) (hp : P m = true) (hq : ∀ x ∈ S, Q x = (P x && decide (x ≠ m))) : (S.filter P).length = (S.filter Q).length + 1 := by
  have e : S.filter Q = (S.filter P).filter fun x => decide (x ≠ m) := by
    rw [List.filter_filter]
    exact List.filter_congr fun x hx => by rw [hq x hx, Bool.and_comm]
  have nd2 : (S.filter P).Nodup := nd.sublist List.filter_sublist
  have hm2 : m ∈ S.filter P := List.mem_filter.mpr ⟨hm, hp⟩
  rw [e]
  obtain ⟨a, b, e2⟩ := List.append_of_mem hm2
  rw [e2] at nd2 ⊢
  obtain ⟨n1, n2, n3⟩ := List.nodup_append.mp nd2
  have n4 := (List.nodup_cons.mp n2).1
  have ea : a.filter (fun x => decide (x ≠ m)) = a := List.filter_eq_self.mpr fun x hx => decide_eq_true fun z => n3 x hx m (by simp) z
  have eb : b.filter (fun x => decide (x ≠ m)) = b := List.filter_eq_self.mpr fun x hx => decide_eq_true fun z => n4 (z ▸ hx)
  rw [List.filter_append, List.filter_cons, ea, eb]
  simp
  omega
theorem cc_nil {S : List Int} (nd : S.Nodup) : (comps [] S).length = S.length := by
  rw [comps_cnt Lab.nil]; unfold cnt; simp
open Classical in
theorem cc_snoc {es : Ties} {S : List Int} {x y : Int} (nd : S.Nodup) (hx : x ∈ S) (hy : y ∈ S) : (comps es S).length = (comps (es ++ [(x, y)]) S).length + (if Con es S x y then 0 else 1) := by
  obtain ⟨l, h⟩ := lab_ex S es
  have h2 := h.step hx hy _ _ rfl rfl
  rw [comps_cnt h, comps_cnt h2]
  have hxy := (h x hx).eq (h y hy)
  by_cases c : Con es S x y
  · rw [if_pos c]
    have e := hxy.mpr c
    unfold cnt
    rw [Nat.add_zero]
    congr 1
    refine List.filter_congr fun p hp => ?_
    show decide (l p = p) = decide ((if l p = _ then _ else l p) = p)
    rw [e]
    by_cases q : l p = l y <;> simp [q]
  · rw [if_neg c]
    have e : ¬ l x = l y := fun z => c (hxy.mp z)
    have rep : ∀ a ∈ S, l (l a) = l a := fun a ha => ((h _ (h a ha).1.right).eq (h a ha)).mpr (h a ha).1.symm
    obtain ⟨lo, hlo⟩ : ∃ lo, lo = if l y < l x then l y else l x := ⟨_, rfl⟩
    obtain ⟨hi, hhi⟩ : ∃ hi, hi = if l y > l x then l y else l x := ⟨_, rfl⟩
    rw [← hlo, ← hhi]
    have hlh : lo ≠ hi := by rw [hlo, hhi]; split <;> split <;> omega
    have hhS : hi ∈ S := by rw [hhi]; split; exact (h y hy).1.right; exact (h x hx).1.right
    have hhl : l hi = hi := by rw [hhi]; split; exact rep y hy; exact rep x hx
    have hll : l lo = lo := by rw [hlo]; split; exact rep y hy; exact rep x hx
    unfold cnt
    refine filter_one nd hhS (decide_eq_true hhl) fun p hp => ?_
    show decide ((if l p = hi then lo else l p) = p) = _
    by_cases q : l p = hi
    · rw [if_pos q]
      have n1 : ¬ lo = p := fun z => by rw [← z, hll] at q; exact hlh q
      by_cases q2 : p = hi
      · simp [q2, hhl, hlh]
      · have : ¬ l p = p := fun z => q2 (by rw [← z, q])
        simp [this, n1]
    · rw [if_neg q]
      by_cases q2 : p = hi
      · rw [q2] at q; exact absurd hhl q
      · simp [q2]
/-- no tie within what hangs together already -/
def Forest (S : List Int) (es : Ties) : Prop := ∀ pre x y post, es = pre ++ (x, y) :: post → ¬ Con pre S x y
theorem Forest.init {S : List Int} {es : Ties} {p : Int × Int} (h : Forest S (es ++ [p])) : Forest S es := fun pre x y post e => h pre x y (post ++ [p]) (by rw [e]; simp)
theorem Forest.last {S : List Int} {es : Ties} {x y : Int} (h : Forest S (es ++ [(x, y)])) : ¬ Con es S x y := h es x y [] rfl
theorem Forest.snoc {S : List Int} {es : Ties} {x y : Int} (h : Forest S es) (k : ¬ Con es S x y) : Forest S (es ++ [(x, y)]) := fun pre a b post e => by
  rcases List.eq_nil_or_concat post with rfl | ⟨i, l, rfl⟩
  · have := List.append_inj' e (by simp)
    obtain ⟨e1, e2⟩ := this
    simp at e2
    rw [← e1, ← e2.1, ← e2.2]; exact k
  · rw [List.concat_eq_append] at e
    have e : es ++ [(x, y)] = (pre ++ (a, b) :: i) ++ [l] := by rw [e]; simp
    exact h pre a b i (List.append_inj' e (by simp)).1
theorem forest_cnt {S : List Int} (nd : S.Nodup) : ∀ es : Ties, (∀ p ∈ es, p.1 ∈ S ∧ p.2 ∈ S) → S.length ≤ (comps es S).length + es.length ∧ ((comps es S).length + es.length = S.length ↔ Forest S es) := by
  refine snoc_ind ?_ ?_
  · intro _
    rw [cc_nil nd]
    refine ⟨by simp, fun _ pre x y post e => by simp at e, fun _ => by simp⟩
  · intro es p ih h
    obtain ⟨x, y⟩ := p
    obtain ⟨i1, i2⟩ := ih fun p hp => h p (by simp [hp])
    have hx : x ∈ S := (h (x, y) (by simp)).1
    have hy : y ∈ S := (h (x, y) (by simp)).2
    have c := cc_snoc (es := es) nd hx hy
    rw [List.length_append, List.length_singleton]
    by_cases k : Con es S x y
    · rw [if_pos k] at c
      refine ⟨by omega, fun z => by omega, fun z => absurd k z.last⟩
    · rw [if_neg k] at c
      refine ⟨by omega, fun z => (i2.mp (by omega)).snoc k, fun z => ?_⟩
      have := i2.mpr z.init
      omega
theorem cc_one {es : Ties} {S : List Int} (nd : S.Nodup) {r : Int} (hr : r ∈ S) : (comps es S).length = 1 ↔ ∀ a ∈ S, Con es S r a := by
  obtain ⟨l, h⟩ := lab_ex S es
  rw [comps_cnt h]
  have rep : ∀ a ∈ S, l (l a) = l a := fun a ha => ((h _ (h a ha).1.right).eq (h a ha)).mpr (h a ha).1.symm
  unfold cnt
  constructor
  · intro e a ha
    obtain ⟨z, ez⟩ := List.length_eq_one_iff.mp e
    have hz : ∀ b ∈ S, l b = z := fun b hb => by
      have : l b ∈ S.filter fun p => decide (l p = p) := List.mem_filter.mpr ⟨(h b hb).1.right, decide_eq_true (rep b hb)⟩
      rw [ez] at this
      simpa using this
    exact ((h r hr).eq (h a ha)).mp (by rw [hz r hr, hz a ha])
  · intro k
    have hz : ∀ b ∈ S, l b = l r := fun b hb => (((h r hr).eq (h b hb)).mpr (k b hb)).symm
    have : S.filter (fun p => decide (l p = p)) = S.filter (fun p => decide (p = l r)) := List.filter_congr fun p hp => by
      rw [hz p hp, decide_eq_decide]; exact ⟨Eq.symm, Eq.symm⟩
    rw [this]
    have := filter_one (P := fun p => decide (p = l r)) (Q := fun _ => false) nd (h r hr).1.right (by simp) (fun x _ => by by_cases q : x = l r <;> simp [q])
    rw [this]; simp
/-- a tree: one tie less than points, and no ring; or: one tie less, and all hangs together -/
theorem tree_iff {es : Ties} {S : List Int} (nd : S.Nodup) {r : Int} (hr : r ∈ S) (h : ∀ p ∈ es, p.1 ∈ S ∧ p.2 ∈ S) (hl : es.length + 1 = S.length) : (∀ a ∈ S, Con es S r a) ↔ Forest S es := by
  rw [← cc_one nd hr, ← (forest_cnt nd es h).2]
  omega
theorem Forest.sub {S T : List Int} {es : Ties} (hT : ∀ x ∈ T, x ∈ S) {p : Int × Int → Bool} (h : Forest S es) : Forest T (es.filter p) := by
  revert h
  refine snoc_ind (P := fun es => Forest S es → Forest T (es.filter p)) ?_ ?_ es
  · intro _ pre x y post e; simp at e
  · intro es q ih h
    obtain ⟨x, y⟩ := q
    rw [List.filter_append]
    have i := ih h.init
    by_cases hp : p (x, y) = true
    · rw [List.filter_cons, if_pos hp]
      refine i.snoc fun c => h.last (c.mono (fun a b e => ?_) hT)
      rcases e with e | e
      · exact .inl (List.mem_filter.mp e).1
      · exact .inr (List.mem_filter.mp e).1
    · rw [List.filter_cons, if_neg hp]
      simpa using i
end B

/-! MB: trees, as both see them. -/
namespace B
open PySem PySem.Spec PyProof.Rows L2 DL
theorem isTie_P {m : Int} {d : D} (h : isTie? m d = true) : ∃ p : Int × Int, d = encP p ∧ 0 ≤ p.1 ∧ p.1 < p.2 ∧ p.2 < m := by
  unfold isTie? at h
  split at h
  · rename_i i j
    rw [Bool.and_eq_true, Bool.and_eq_true] at h
    exact ⟨(i, j), rfl, of_decide_eq_true h.1.1, of_decide_eq_true h.1.2, of_decide_eq_true h.2⟩
  · cases h
theorem isTie_all {m : Int} : ∀ {xs : List D}, xs.all (isTie? m) = true → ∃ es : Ties, xs = es.map encP ∧ ∀ p ∈ es, 0 ≤ p.1 ∧ p.1 < p.2 ∧ p.2 < m
  | [], _ => ⟨[], rfl, by simp⟩
  | x :: r, h => by
    rw [List.all_cons, Bool.and_eq_true] at h
    obtain ⟨p, rfl, k⟩ := isTie_P h.1
    obtain ⟨es, rfl, k2⟩ := isTie_all h.2
    refine ⟨p :: es, rfl, fun q hq => ?_⟩
    rcases List.mem_cons.mp hq with z | z
    · rw [z]; exact k
    · exact k2 q z
theorem encP_inj {p q : Int × Int} (h : encP p = encP q) : p = q := by
  obtain ⟨a, b⟩ := p
  obtain ⟨c, d⟩ := q
  unfold encP at h
  injection h with h
  injection h with h1 h2
  injection h2 with h2 _
  injection h1 with h1
  injection h2 with h2
  have h1 : a = c := h1
  have h2 : b = d := h2
  rw [h1, h2]
theorem map_encP_inj : ∀ {a b : Ties}, a.map encP = b.map encP → a = b
  | [], [], _ => rfl
  | [], _ :: _, h => by cases h
  | _ :: _, [], h => by cases h
  | x :: r, y :: t, h => by
    rw [List.map_cons, List.map_cons] at h
    obtain ⟨h1, h2⟩ := List.cons.inj h
    rw [encP_inj h1, map_encP_inj h2]
open Classical in
/-- links that hang m bags on one tree -/
noncomputable def treeB (m : Nat) : D → Bool
  | .lst xs => decide (xs.length + 1 = m) && xs.all (isTie? m) && decide (∃ es : Ties, xs = es.map encP ∧ Forest (ptsOf m) es)
  | _ => false
open Classical in
theorem treeB_T {m : Nat} {es : Ties} (hl : es.length + 1 = m) (h : ∀ p ∈ es, 0 ≤ p.1 ∧ p.1 < p.2 ∧ p.2 < (m : Int)) : treeB m (encT es) = decide (Forest (ptsOf m) es) := by
  have h1 : (es.map encP).all (isTie? m) = true := by
    rw [List.all_map]; exact List.all_eq_true.mpr fun p hp => by
      show isTie? m (encP p) = true
      rw [isTie?_P]; exact decide_eq_true (h p hp)
  show (decide ((es.map encP).length + 1 = m) && (es.map encP).all (isTie? m) && decide _) = _
  rw [h1, List.length_map, decide_eq_true hl]
  simp only [Bool.true_and]
  rw [decide_eq_decide]
  constructor
  · rintro ⟨fs, e, k⟩; rw [map_encP_inj e]; exact k
  · intro k; exact ⟨es, rfl, k⟩
theorem treeB_tie {m : Nat} {xs : List D} (h : xs.all (isTie? m) = false) : treeB m (.lst xs) = false := by
  show (_ && xs.all (isTie? m) && _) = _
  rw [h]; simp
theorem treeB_len {m : Nat} {xs : List D} (h : ¬ xs.length + 1 = m) : treeB m (.lst xs) = false := by
  show (decide (xs.length + 1 = m) && _ && _) = _
  rw [decide_eq_false h]; simp
theorem whileR {c : En → Option Bool} {s t : En → Out} {Γ : En} {N : Nat} {R : Res} (m : Nat) (I : Nat → En → Prop) (hN : m < N) (h0 : I m Γ)
    (hs : ∀ m Γ, I m Γ → (c Γ = some false) ∨ (c Γ = some true ∧ ∃ Γ', (s Γ = .nx Γ' ∨ s Γ = .ct Γ') ∧ ∃ m', m' < m ∧ I m' Γ')) (hk : ∀ m Γ', I m Γ' → c Γ' = some false → (t Γ').res = R) :
    ((loopW c s N Γ).seq t).res = R := by
  obtain ⟨Γ', m', e, h, hc⟩ := while_all I (fun m Γ h => (hs m Γ h).imp id fun ⟨a, Γ', b, m', d, e⟩ => ⟨a, Γ', m', d, b, e⟩) m N Γ hN h0
  rw [e]; exact hk m' Γ' h hc
/-- what is come to -/
structure Com (es : Ties) (S : List Int) (r : Int) (at' : Nat) (come : List Int) : Prop where
  nd : come.Nodup
  has : r ∈ come
  con : ∀ x ∈ come, Con es S r x
  cl : ∀ i, i < at' → ∀ v, come[i]? = some v → ∀ w, w ∈ S → Adj es v w → w ∈ come
  le : at' ≤ come.length
theorem Com.done {es : Ties} {S : List Int} {r : Int} {at' : Nat} {come : List Int} (b : Com es S r at' come) (h : at' = come.length) (x : Int) : x ∈ come ↔ Con es S r x := by
  refine ⟨b.con x, fun c => ?_⟩
  induction c with
  | refl _ => exact b.has
  | step p e m ih =>
    obtain ⟨i, hi⟩ := List.mem_iff_getElem?.mp ih
    have hl : i < come.length := (List.getElem?_eq_some_iff.mp hi).1
    exact b.cl i (by omega) _ hi _ m e
theorem Com.add {es : Ties} {S : List Int} {r : Int} {at' : Nat} {come : List Int} {v w : Int} (b : Com es S r at' come) (hv : v ∈ come) (ha : Adj es v w) (hw : w ∈ S) (hn : w ∉ come) : Com es S r at' (come ++ [w]) := by
  refine ⟨?_, by simp [b.has], fun x hx => ?_, fun i hi u hu z hz ad => ?_, by have := b.le; simp; omega⟩
  · refine List.nodup_append.mpr ⟨b.nd, by simp, fun x hx y hy z => ?_⟩
    simp at hy; subst hy z; exact hn hx
  · rcases List.mem_append.mp hx with z | z
    · exact b.con x z
    · simp at z; rw [z]; exact (b.con v hv).step ha hw
  · have hle := b.le
    rw [List.getElem?_append_left (by omega)] at hu
    have := b.cl i hi u hu z hz ad
    simp [this]
theorem all_of_len {xs ys : List Int} (nd : xs.Nodup) (hs : ∀ x ∈ xs, x ∈ ys) (hl : ys.length ≤ xs.length) : ∀ y ∈ ys, y ∈ xs := fun y hy => by
  refine Classical.byContradiction fun z => ?_
  have := nodup_sub_len (xs := y :: xs) (ys := ys) (List.nodup_cons.mpr ⟨z, nd⟩) fun x hx => by
    rcases List.mem_cons.mp hx with q | q
    · rw [q]; exact hy
    · exact hs x q
  simp at this; omega
/-- what the ties ahead have led to -/
structure Inn (es : Ties) (S : List Int) (at' : Nat) (come : List Int) (v : Int) (pre : Ties) (come' : List Int) : Prop where
  b : Com es S 0 at' come'
  pf : ∃ t, come' = come ++ t
  pr : ∀ p ∈ pre, (p.1 = v → p.2 ∈ come') ∧ (p.2 = v → p.1 ∈ come')
theorem Inn.same {es : Ties} {S : List Int} {at' : Nat} {come : List Int} {v x y : Int} {pre : Ties} {come' : List Int} (h : Inn es S at' come v pre come') (h1 : x = v → y ∈ come') (h2 : y = v → x ∈ come') : Inn es S at' come v (pre ++ [(x, y)]) come' :=
  ⟨h.b, h.pf, fun p hp => by
    rcases List.mem_append.mp hp with z | z
    · exact h.pr p z
    · simp at z; rw [z]; exact ⟨h1, h2⟩⟩
theorem Inn.more {es : Ties} {S : List Int} {at' : Nat} {come : List Int} {v x y w : Int} {pre : Ties} {come' : List Int} (h : Inn es S at' come v pre come') (b : Com es S 0 at' (come' ++ [w])) (h1 : x = v → y = w) (h2 : y = v → x = w) : Inn es S at' come v (pre ++ [(x, y)]) (come' ++ [w]) :=
  ⟨b, by obtain ⟨t, e⟩ := h.pf; exact ⟨t ++ [w], by rw [e]; simp⟩, fun p hp => by
    rcases List.mem_append.mp hp with z | z
    · exact ⟨fun q => by simp [(h.pr p z).1 q], fun q => by simp [(h.pr p z).2 q]⟩
    · simp at z; rw [z]; exact ⟨fun q => by simp [h1 q], fun q => by simp [h2 q]⟩⟩
theorem g_is_tree_eq {m : Nat} {d : D} (hm : 1 ≤ m) (hm2 : m ≤ 1000) (hsc : ∀ ns, d ≠ .scr ns) (hl : ∀ xs, d = .lst xs → xs.length ≤ 1000) : g_is_tree [d, .int m] = .ok (.bl (treeB m d)) := by
  unfold g_is_tree; rw [runD_eq]; unfold m_is_tree
  cases d with
  | lst xs =>
    have hl := hl xs rfl
    by_cases e0 : xs.length + 1 = m
    case neg =>
      have e1 : ¬ (xs.length : Int) = m - 1 := by omega
      simp [List.replicate, e1, treeB_len e0]
    have e1 : (xs.length : Int) = m - 1 := by omega
    simp [List.replicate, e1]
    refine loopFindD (fun Γ => ∃ x2, Γ = [.sh (.lst xs), .sh (.int m), x2, .no, .no, .no, .no]) (fun x => !isTie? m x) (.bl false) xs ⟨_, rfl⟩ ?_ ?_ ?_
    · rintro x hx Γ ⟨x2, rfl⟩
      have h := g_is_tie_eq x m
      cases e : isTie? m x <;> rw [e] at h <;> simp [h]
    · intro hf
      have : xs.all (isTie? m) = false := by
        rw [Bool.eq_false_iff]
        intro z
        obtain ⟨x, k, q⟩ := List.any_eq_true.mp hf
        rw [List.all_eq_true.mp z x k] at q; cases q
      rw [treeB_tie this]
    · rintro Γ hf ⟨x2, rfl⟩
      have hall : xs.all (isTie? m) = true := List.all_eq_true.mpr fun x hx => by
        have := List.any_eq_false.mp hf x hx
        simpa using this
      obtain ⟨es, rfl, hok⟩ := isTie_all hall
      rw [List.length_map] at hl e0
      rw [treeB_T e0 hok]
      simp
      have hm0 : (0 : Int) ∈ ptsOf m := mem_ptsOf.mpr (by omega)
      have hes : ∀ p ∈ es, p.1 ∈ ptsOf m ∧ p.2 ∈ ptsOf m := fun p hp => by
        have := hok p hp
        exact ⟨mem_ptsOf.mpr (by omega), mem_ptsOf.mpr (by omega)⟩
      have hpl : (ptsOf (m : Int)).length = m := by simp [ptsOf]
      have hmem : ∀ come at', Com es (ptsOf m) 0 at' come → come.length ≤ m := fun come at' b => by
        have := nodup_sub_len b.nd fun x hx => (b.con x hx).right
        omega
      refine whileR m (fun k Γ => ∃ come, ∃ at' : Nat, ∃ x5 x6, Com es (ptsOf m) 0 at' come ∧ k + at' = m ∧ Γ = [.sh (.lst (es.map encP)), .sh (.int m), x2, .ol (come.map D.int), .sh (.int at'), x5, x6]) (by omega) ⟨[0], 0, _, _, ⟨by simp, by simp, by simpa using Con.refl hm0, by simp, by simp⟩, by simp, rfl⟩ ?_ ?_
      · rintro k Γ ⟨come, at', x5, x6, b, hk, rfl⟩
        by_cases hlt' : at' < come.length
        case neg => exact .inl (by simp; omega)
        refine .inr ⟨by simp; omega, ?_⟩
        obtain ⟨v, hv⟩ : ∃ v, come[at']? = some v := ⟨_, List.getElem?_eq_getElem hlt'⟩
        have hvp : v ∈ come := List.mem_of_getElem? hv
        simp
        refine loopX2 (fun pre Γ => ∃ come' x5 x6, Inn es (ptsOf m) at' come v pre come' ∧ Γ = [.sh (.lst (es.map encP)), .sh (.int m), x2, .ol (come'.map D.int), .sh (.int at'), x5, x6]) es ⟨come, _, _, ⟨b, ⟨[], by simp⟩, by simp⟩, rfl⟩ ?_ ?_
        · rintro pre x y post Γ hp ⟨come', x5, x6, n, rfl⟩
          have hxy : x ∈ ptsOf m ∧ y ∈ ptsOf m := hes (x, y) (by rw [hp]; simp)
          have hne : 0 ≤ x ∧ x < y ∧ y < m := hok (x, y) (by rw [hp]; simp)
          obtain ⟨t, e'⟩ := n.pf
          have hmem' := hmem come' at' n.b
          have e1 : atI (come'.map D.int) (at' : Int) = some (.int v) := atI_nat (by rw [List.getElem?_map, e', List.getElem?_append_left hlt', hv]; rfl)
          have hcl : come'.length < 1000000 := by omega
          have hv' : v ∈ come' := by rw [e']; simp [hvp]
          have hin : (x, y) ∈ es := by rw [hp]; simp
          by_cases hx : x = v
          · have hy : ¬ y = v := by omega
            by_cases hm1 : y ∈ come'
            · have n2 := n.same (x := x) (y := y) (fun _ => hm1) fun z => absurd z hy
              rw [hx] at n2
              simp [e1, hx, hm1, hy]
              exact ⟨come', n2, rfl⟩
            · have b2 := n.b.add hv' (.inl (hx ▸ hin)) hxy.2 hm1
              have n2 := n.more (x := x) (y := y) b2 (fun _ => rfl) fun z => absurd z hy
              rw [hx] at n2
              have e2 : atI (come'.map D.int ++ [.int y]) (at' : Int) = some (.int v) := atI_nat (by rw [List.getElem?_append_left (by rw [List.length_map, e']; simp; omega), List.getElem?_map, e', List.getElem?_append_left hlt', hv]; rfl)
              simp [e1, hx, hm1, hcl, e2, hy]
              exact ⟨come' ++ [y], n2, by simp⟩
          · by_cases hy : y = v
            · by_cases hm1 : x ∈ come'
              · have n2 := n.same (x := x) (y := y) (fun z => absurd z hx) (fun _ => hm1)
                rw [hy] at n2
                simp [e1, hx, hm1, hy]
                exact ⟨come', n2, rfl⟩
              · have b2 := n.b.add hv' (.inr (hy ▸ hin)) hxy.1 hm1
                have n2 := n.more (x := x) (y := y) b2 (fun z => absurd z hx) fun _ => rfl
                rw [hy] at n2
                simp [e1, hx, hm1, hcl, hy]
                exact ⟨come' ++ [x], n2, by simp⟩
            · have n2 := n.same (x := x) (y := y) (fun z => absurd z hx) fun z => absurd z hy
              simp [e1, hx, hy]
              exact ⟨come', n2, rfl⟩
        · rintro Γ ⟨come', x5, x6, n, rfl⟩
          have b' := n.b
          have hpre := n.pr
          obtain ⟨t, e'⟩ := n.pf
          have hll : at' + 1 ≤ come'.length := by rw [e']; simp; omega
          have hmem' := hmem come' at' b'
          simp
          refine ⟨m - (at' + 1), by omega, come', at' + 1, ⟨b'.nd, b'.has, b'.con, fun i hi u hu w hw ad => ?_, hll⟩, by omega, by simp⟩
          by_cases hi2 : i < at'
          · exact b'.cl i hi2 u hu w hw ad
          · have : i = at' := by omega
            subst this
            rw [e', List.getElem?_append_left hlt', hv] at hu
            cases hu
            rcases ad with ad | ad
            · exact (hpre _ ad).1 rfl
            · exact (hpre _ ad).2 rfl
      · rintro k Γ ⟨come, at', x5, x6, b, hk, rfl⟩ hc
        simp at hc
        have hat : at' = come.length := by have := b.le; omega
        have hd := b.done hat
        have hcl := hmem come at' b
        have hti := tree_iff (ptsOf_nodup m) hm0 hes (by rw [hpl]; exact e0)
        have : ((come.length : Int) = m) ↔ Forest (ptsOf m) es := by
          rw [← hti]
          constructor
          · intro q a ha
            exact (hd a).mp (all_of_len b.nd (fun x hx => (b.con x hx).right) (by omega) a ha)
          · intro q
            have := nodup_sub_len (ptsOf_nodup m) fun x hx => (hd x).mpr (q x hx)
            omega
        simp
        exact this
  | scr ns => exact absurd rfl (hsc ns)
  | _ => simp [List.replicate, treeB]; try rfl
/-- labels tell what hangs together -/
structure Lbs (es : Ties) (m : Nat) (L : List Int) : Prop where
  len : L.length = m
  lab : ∀ a b : Nat, a < m → b < m → (L[a]? = L[b]? ↔ Con es (ptsOf m) a b)
theorem lbs0 (m : Nat) : Lbs [] m (ptsOf m) := by
  refine ⟨by simp [ptsOf], fun a b ha hb => ?_⟩
  have e : ∀ k < m, (ptsOf (m : Int))[k]? = some (k : Int) := fun k hk => by
    unfold ptsOf; rw [List.getElem?_map, List.getElem?_range (by omega)]; rfl
  rw [e a ha, e b hb]
  constructor
  · intro h
    injection h with h
    rw [h]; exact .refl (mem_ptsOf.mpr (by omega))
  · intro c
    rw [c.nil]
theorem Lbs.step {es : Ties} {m : Nat} {L : List Int} (h : Lbs es m L) {x y : Nat} (hx : x < m) (hy : y < m) {lx ly : Int} (ex : L[x]? = some lx) (ey : L[y]? = some ly) :
    Lbs (es ++ [((x : Int), (y : Int))]) m (L.map fun l => if l = ly then lx else l) := by
  refine ⟨by simp [h.len], fun a b ha hb => ?_⟩
  have mx : (x : Int) ∈ ptsOf m := mem_ptsOf.mpr (by omega)
  have my : (y : Int) ∈ ptsOf m := mem_ptsOf.mpr (by omega)
  rw [con_snoc mx my]
  have hl := h.len
  obtain ⟨la, ea⟩ : ∃ la, L[a]? = some la := ⟨_, List.getElem?_eq_getElem (by omega)⟩
  obtain ⟨lb, eb⟩ : ∃ lb, L[b]? = some lb := ⟨_, List.getElem?_eq_getElem (by omega)⟩
  rw [← h.lab a b ha hb, ← h.lab a x ha hx, ← h.lab y b hy hb, ← h.lab a y ha hy, ← h.lab x b hx hb, List.getElem?_map, List.getElem?_map, ea, eb, ex, ey]
  simp only [Option.map_some, Option.some.injEq]
  by_cases q1 : la = ly <;> by_cases q2 : lb = ly <;> simp only [q1, q2, if_true, if_false] <;> grind
/-- a loop with a state that may hand back at one -/
theorem loopRet {i : Nat} {s t : En → Out} {α : Type} {Γ : En} {R : Res} (enc : α → D) (I : List α → En → Prop) (xs : List α) (h0 : I [] Γ)
    (hs : ∀ pre x post Γ, xs = pre ++ x :: post → I pre Γ → (∃ d Γ', s (Γ.set i (.sh (enc x))) = .ret d Γ' ∧ Res.ok d = R) ∨ ∃ Γ', (s (Γ.set i (.sh (enc x))) = .nx Γ' ∨ s (Γ.set i (.sh (enc x))) = .ct Γ') ∧ I (pre ++ [x]) Γ')
    (hk : ∀ Γ', I xs Γ' → (t Γ').res = R) : ((loopF (bN i) s (xs.map enc) Γ).seq t).res = R := by
  have key : ∀ (post pre : List α) (Γ : En), xs = pre ++ post → I pre Γ → ((loopF (bN i) s (post.map enc) Γ).seq t).res = R := by
    intro post
    induction post with
    | nil => intro pre Γ e h; rw [List.append_nil] at e; subst e; exact hk Γ h
    | cons x r ih =>
      intro pre Γ e h
      rw [List.map_cons, loopF_N]
      rcases hs pre x r Γ e h with ⟨d, Γ1, e1, e2⟩ | ⟨Γ1, e1, h1⟩
      · rw [e1]; exact e2
      · have := ih (pre ++ [x]) Γ1 (by rw [e]; simp) h1
        rcases e1 with e1 | e1 <;> rw [e1] <;> exact this
  exact key xs [] Γ rfl h0
theorem loopRetD {i : Nat} {s t : En → Out} {Γ : En} {R : Res} (I : List D → En → Prop) (xs : List D) (h0 : I [] Γ)
    (hs : ∀ pre x post Γ, xs = pre ++ x :: post → I pre Γ → (∃ d Γ', s (Γ.set i (.sh x)) = .ret d Γ' ∧ Res.ok d = R) ∨ ∃ Γ', (s (Γ.set i (.sh x)) = .nx Γ' ∨ s (Γ.set i (.sh x)) = .ct Γ') ∧ I (pre ++ [x]) Γ')
    (hk : ∀ Γ', I xs Γ' → (t Γ').res = R) : ((loopF (bN i) s xs Γ).seq t).res = R := by
  have h := loopRet (i := i) (s := s) (t := t) (Γ := Γ) (R := R) (fun x : D => x) I xs h0 hs hk
  rw [List.map_id'] at h
  exact h
theorem Forest.pre {S : List Int} {es fs : Ties} (h : Forest S (es ++ fs)) : Forest S es := fun pre x y post e => h pre x y (post ++ fs) (by rw [e]; simp)
open Classical in
theorem g_law_is_tree_eq {m : Nat} {d : D} (hm : 1 ≤ m) (hm2 : m ≤ 1000) (hsc : ∀ ns, d ≠ .scr ns) (hl : ∀ xs, d = .lst xs → xs.length ≤ 1000) : g_law_is_tree [d, .int m] = .ok (.bl (treeB m d)) := by
  unfold g_law_is_tree; rw [runD_eq]; unfold m_law_is_tree
  cases d with
  | lst xs =>
    have hl := hl xs rfl
    by_cases e0 : xs.length + 1 = m
    case neg =>
      have e1 : ¬ (xs.length : Int) = m - 1 := by omega
      simp [List.replicate, e1, treeB_len e0]
    have e1 : (xs.length : Int) = m - 1 := by omega
    have hm3 : (m : Int) ≤ 1000000 := by omega
    have hrg : rng 0 m = (ptsOf (m : Int)).map D.int := by have := rng_pts (m : Int); rwa [Int.toNat_natCast] at this
    simp [List.replicate, e1, hm3, hrg]
    refine loopRetD (fun pre Γ => ∃ es L x3 x4, pre = es.map encP ∧ (∀ p ∈ es, 0 ≤ p.1 ∧ p.1 < p.2 ∧ p.2 < (m : Int)) ∧ Forest (ptsOf m) es ∧ Lbs es m L ∧ Γ = [.sh (.lst xs), .sh (.int m), .sh (.lst (L.map D.int)), x3, x4, .no]) xs ⟨[], _, _, _, rfl, by simp, (fun pre x y post e => by simp at e), lbs0 m, rfl⟩ ?_ ?_
    · rintro pre x post Γ hp ⟨es, L, x3, x4, rfl, hok, hF, hL, rfl⟩
      by_cases ht : isTie? m x = true
      · obtain ⟨⟨a, b⟩, rfl, h1, h2, h3⟩ := isTie_P ht
        obtain ⟨a, rfl⟩ : ∃ k : Nat, a = k := ⟨a.toNat, by omega⟩
        obtain ⟨b, rfl⟩ : ∃ k : Nat, b = k := ⟨b.toNat, by omega⟩
        have hll := hL.len
        have ha : a < m := by simp at h2 h3; omega
        have hb : b < m := by simp at h3; omega
        obtain ⟨la, ea⟩ : ∃ la, L[a]? = some la := ⟨_, List.getElem?_eq_getElem (by omega)⟩
        obtain ⟨lb, eb⟩ : ∃ lb, L[b]? = some lb := ⟨_, List.getElem?_eq_getElem (by omega)⟩
        have aa : atI (L.map D.int) (a : Int) = some (.int la) := atI_nat (by rw [List.getElem?_map, ea]; rfl)
        have ab : atI (L.map D.int) (b : Int) = some (.int lb) := atI_nat (by rw [List.getElem?_map, eb]; rfl)
        have hab : a < b := by simp at h2; exact h2
        have hLl : L.length ≤ 1000000 := by omega
        have hcon := hL.lab a b ha hb
        rw [ea, eb] at hcon
        by_cases q : la = lb
        · refine .inl ?_
          have hc : Con es (ptsOf m) a b := hcon.mp (by rw [q])
          have hB : treeB m (.lst xs) = false := by
            cases hall : xs.all (isTie? m) with
            | false => exact treeB_tie hall
            | true =>
              obtain ⟨fs, rfl, hok2⟩ := isTie_all hall
              rw [List.length_map] at e0
              rw [treeB_T e0 hok2]
              refine decide_eq_false fun hF2 => ?_
              have : fs = es ++ ((a : Int), (b : Int)) :: post.map fun d => (match d with | .tup [.int i, .int j] => (i, j) | _ => (0, 0)) := by
                have hk : ∀ ds : Ties, (ds.map encP).map (fun d => (match d with | .tup [.int i, .int j] => (i, j) | _ => (0, 0))) = ds := fun ds => by
                  rw [List.map_map]
                  conv => rhs; rw [← List.map_id ds]
                  exact List.map_congr_left fun p _ => rfl
                have := congrArg (List.map (fun d => (match d with | D.tup [.int i, .int j] => (i, j) | _ => ((0 : Int), (0 : Int))))) hp
                rw [hk, List.map_append, hk] at this
                exact this
              exact hF2 _ _ _ _ this hc
          rw [hB]
          have hd : dEq (.int la) (.int lb) = some (.bl true) := by rw [dEq_ii, decide_eq_true q]
          simp [aa, ab, encP, h1, hab, hb, hd, hLl]
        · refine .inr ?_
          have hc : ¬ Con es (ptsOf m) a b := fun z => q (by have := hcon.mpr z; injection this)
          have hst := hL.step ha hb ea eb
          have hcm := compF_all (i := 5) (f := eIf (tst (eOp dEq (eVar 5) (eOp dIx (eVar 2) (eOp dIx (eVar 3) (eC (.int 1)))))) (eVar 4) (eVar 5)) (Γ := [.sh (.lst xs), .sh (.int m), .sh (.lst (L.map D.int)), .sh (encP ((a : Int), (b : Int))), .sh (.int la), .no]) D.int D.int (fun l => if l = lb then la else l) L (fun l _ => by
            by_cases z : l = lb <;> simp [encP, ab, z])
          simp [aa, ab, encP, h1, hab, hb, q, hLl, -List.map_map] at hcm ⊢
          rw [hcm]
          simp [-List.map_map]
          refine ⟨es ++ [((a : Int), (b : Int))], by simp [encP], fun u v huv => ?_, hF.snoc hc, _, hst, rfl⟩
          rcases List.mem_append.mp huv with z | z
          · exact hok (u, v) z
          · simp at z; omega
      · have ht : isTie? m x = false := by simpa using ht
        refine .inl ?_
        have hall : xs.all (isTie? m) = false := by
          rw [Bool.eq_false_iff]
          intro z
          rw [List.all_eq_true.mp z x (by rw [hp]; simp)] at ht; cases ht
        rw [treeB_tie hall]
        cases x with
        | tup ys =>
          match ys with
          | [] => simp
          | [y] => simp
          | [y, z] =>
            cases y with
            | int a =>
              cases z with
              | int b =>
                have hb : ¬ (0 ≤ a ∧ a < b ∧ b < m) := fun q => by
                  have := isTie?_P (m : Int) (a, b)
                  rw [decide_eq_true q] at this
                  rw [show (D.tup [D.int a, D.int b]) = encP (a, b) from rfl, this] at ht
                  cases ht
                by_cases q1 : 0 ≤ a
                · by_cases q2 : a < b
                  · have q3 : ¬ b < m := fun q => hb ⟨q1, q2, q⟩
                    simp [q1, q2, q3]
                  · simp [q1, q2]
                · simp [q1]
              | _ => simp [isInt?]
            | _ => simp [isInt?]
          | y :: z :: w :: r =>
            have : ¬ ((r.length : Int) + 1 + 1 + 1 = 2) := by omega
            simp [this]
        | _ => exact ⟨_, _, rfl, rfl⟩
    · rintro Γ ⟨es, L, x3, x4, rfl, hok, hF, hL, rfl⟩
      rw [List.length_map] at e0
      rw [treeB_T e0 hok, decide_eq_true hF]
      rfl
  | scr ns => exact absurd rfl (hsc ns)
  | _ => simp [List.replicate, treeB]; try rfl
end B

/-! MC: layouts, as both see them. -/
namespace B
open PySem PySem.Spec PyProof.Rows L2 DL
theorem g_law_is_bag_eq {n : Int} {x : D} (hsc : ∀ ns, x ≠ .scr ns) (hl : ∀ ys, x = .lst ys → ys.length < 64) : g_law_is_bag [x, .int n] = .ok (.bl (bagB n x)) := by
  unfold g_law_is_bag; rw [runD_eq]; unfold m_law_is_bag
  cases x with
  | lst ys =>
    have hy := hl ys rfl
    have hy2 : ys.length ≤ 1000000 := by omega
    have hc := whole_all (i := 2) (n := n) (Γ := [.sh (.lst ys), .sh (.int n), .no]) ys (eAnd (eCall g_law_whole (aCons (eVar 2) aNil)) (eChain dLe dLt (eC (.int 0)) (eVar 2) (eVar 1))) (fun y _ => by
      cases y with
      | int i =>
        simp [g_law_whole_eq, okI]
        by_cases q : 0 ≤ i <;> simp [q]
      | _ => simp [g_law_whole_eq, okI]; try rfl)
    rw [all_okI] at hc
    cases eo : ys.all (okI n) with
    | false =>
      simp [List.replicate, hy2, hc, eo, bag_false eo, -List.map_map]
    | true =>
      obtain ⟨ns, rfl, hk⟩ := okI_all eo
      have hy3 : ns.length < 64 := by simpa using hy
      have hy4 : ns.length ≤ 1000000 := by omega
      have ss : dSortedSet (.lst (ns.map D.int)) = some ((srt (ddp ns)).map D.int) := by simp [dSortedSet, asInts_ints, hy3]
      have hall : (ns.all fun x => decide (0 ≤ x ∧ x < n)) = true := List.all_eq_true.mpr fun x hx => decide_eq_true (hk x hx)
      have hb : bagB n (.lst (ns.map D.int)) = decide (ns = srt (ddp ns)) := by
        have := bagB_I n ns
        unfold bagI at this
        rw [hall] at this
        simpa using this
      have he : dEq (.lst (ns.map D.int)) (.lst ((srt (ddp ns)).map D.int)) = some (.bl (decide (ns = srt (ddp ns)))) := dEq_L ns _
      rw [hb]
      simp [List.replicate, hy4, hc, eo, ss, he, -List.map_map]
  | scr ns => exact absurd rfl (hsc ns)
  | _ => simp [List.replicate, bagB]; try rfl
def covB (es : Ties) (rows : List (List Int)) : Bool := es.all fun p => rows.any fun r => decide (p.1 ∈ r) && decide (p.2 ∈ r)
def inRow (rows : List (List Int)) (v i : Int) : Bool := match rows[i.toNat]? with
  | some r => decide (v ∈ r)
  | none => false
def ownN (rows : List (List Int)) (v : Int) : Nat := (rows.filter fun r => decide (v ∈ r)).length
def lkN (rows : List (List Int)) (ls : Ties) (v : Int) : Nat := (ls.filter fun p => inRow rows v p.1 && inRow rows v p.2).length
def holdB (rows : List (List Int)) (ls : Ties) (v : Int) : Bool := decide (lkN rows ls v + 1 = ownN rows v)
theorem inRow_at {rows : List (List Int)} {v i : Int} (h0 : 0 ≤ i) (h1 : i < rows.length) : ∃ r, atI (rows.map encI) i = some (encI r) ∧ inRow rows v i = decide (v ∈ r) := by
  obtain ⟨k, rfl⟩ : ∃ k : Nat, i = k := ⟨i.toNat, by omega⟩
  have hk : k < rows.length := by omega
  refine ⟨rows[k], atI_nat (by rw [List.getElem?_map, List.getElem?_eq_getElem hk]; rfl), ?_⟩
  unfold inRow
  rw [Int.toNat_natCast, List.getElem?_eq_getElem hk]
theorem g_holds_together_eq {rows : List (List Int)} {ls : Ties} {v : Int} (hr : rows.length ≤ 1000) (hl : ls.length ≤ 1000) (hok : ∀ p ∈ ls, 0 ≤ p.1 ∧ p.1 < p.2 ∧ p.2 < (rows.length : Int)) : g_holds_together [encR rows, encT ls, .int v] = .ok (.bl (holdB rows ls v)) := by
  unfold g_holds_together; rw [runD_eq]; unfold m_holds_together
  have h1 : rows.length ≤ 1000000 := by omega
  have h2 : ls.length ≤ 1000000 := by omega
  have c1 := compF_fil (i := 4) (c := tst (eOp dIn (eVar 2) (eVar 4))) (f := eVar 4) (Γ := [.sh (encR rows), .sh (encT ls), .sh (.int v), .no, .no, .no, .no]) encI (fun r => decide (v ∈ r)) rows (fun r _ => by simp) (fun r _ => by simp)
  have c2 := fun x3 => compF_fil (i := 6) (c := bAnd (tst (eOp dIn (eVar 2) (eOp dIx (eVar 0) (eOp dIx (eVar 6) (eC (.int 0)))))) (tst (eOp dIn (eVar 2) (eOp dIx (eVar 0) (eOp dIx (eVar 6) (eC (.int 1))))))) (f := eVar 6) (Γ := [.sh (encR rows), .sh (encT ls), .sh (.int v), x3, .no, .no, .no]) encP (fun p => inRow rows v p.1 && inRow rows v p.2) ls (fun p hp => by
    have h := hok p hp
    obtain ⟨r1, a1, b1⟩ := inRow_at (rows := rows) (v := v) (i := p.1) (by omega) (by omega)
    obtain ⟨r2, a2, b2⟩ := inRow_at (rows := rows) (v := v) (i := p.2) (by omega) (by omega)
    cases q : inRow rows v p.1 <;> rw [q] at b1 <;> simp [a1, a2, ← b1, b2]) (fun p _ => by simp)
  simp [List.replicate, h1, h2, c1, c2]
  have hz : (∃ x, x ∈ rows ∧ v ∈ x) ↔ 0 < ownN rows v := by
    unfold ownN
    rw [List.length_pos_iff_exists_mem]
    simp
  by_cases z : ∃ x, x ∈ rows ∧ v ∈ x
  · have hz2 := hz.mp z
    rw [decide_eq_true z]
    show Res.ok (D.bl (decide _)) = _
    unfold holdB
    congr 2
    rw [decide_eq_decide]
    unfold lkN ownN at *
    omega
  · have hz2 : ¬ 0 < ownN rows v := fun q => z (hz.mpr q)
    rw [decide_eq_false z]
    show Res.ok (D.bl false) = _
    unfold holdB
    rw [decide_eq_false (by omega)]
theorem own_len (rows : List (List Int)) (v : Int) : ((ptsOf (rows.length : Int)).filter fun i => inRow rows v i).length = ownN rows v := by
  have e : rows = (List.range rows.length).map fun k => rows.getD k [] := by
    refine List.ext_getElem? fun i => ?_
    rw [List.getElem?_map]
    by_cases h : i < rows.length
    · rw [List.getElem?_range h, List.getElem?_eq_getElem h]
      simp [List.getD_eq_getElem?_getD, List.getElem?_eq_getElem h]
    · rw [List.getElem?_eq_none (by omega), List.getElem?_eq_none (by simp; omega)]
      rfl
  unfold ownN ptsOf
  conv => rhs; rw [e]
  rw [filter_map_filter, filter_map_filter, List.length_map, List.length_map, Int.toNat_natCast]
  congr 1
  refine List.filter_congr fun k hk => ?_
  have hk := List.mem_range.mp hk
  unfold inRow
  simp [List.getD_eq_getElem?_getD, List.getElem?_eq_getElem hk]
/-- the pieces of the bags with a point are one just if their links are one less -/
theorem own_one {rows : List (List Int)} {ls : Ties} {v : Int} (hF : Forest (ptsOf rows.length) ls) (hok : ∀ p ∈ ls, 0 ≤ p.1 ∧ p.1 < p.2 ∧ p.2 < (rows.length : Int)) :
    decide ((comps (ls.filter fun p => decide (p.1 ∈ (ptsOf (rows.length : Int)).filter fun i => inRow rows v i) && decide (p.2 ∈ (ptsOf (rows.length : Int)).filter fun i => inRow rows v i)) ((ptsOf (rows.length : Int)).filter fun i => inRow rows v i)).length = 1) = holdB rows ls v := by
  obtain ⟨T, hT⟩ : ∃ T, T = (ptsOf (rows.length : Int)).filter fun i => inRow rows v i := ⟨_, rfl⟩
  rw [← hT]
  have nd : T.Nodup := by rw [hT]; exact (ptsOf_nodup _).sublist List.filter_sublist
  have hTS : ∀ x ∈ T, x ∈ ptsOf (rows.length : Int) := fun x hx => by rw [hT] at hx; exact (List.mem_filter.mp hx).1
  obtain ⟨lk, hlk⟩ : ∃ lk, lk = ls.filter fun p => decide (p.1 ∈ T) && decide (p.2 ∈ T) := ⟨_, rfl⟩
  have hF2 : Forest T lk := by rw [hlk]; exact hF.sub hTS
  have hends : ∀ p ∈ lk, p.1 ∈ T ∧ p.2 ∈ T := fun p hp => by
    rw [hlk] at hp
    have := (List.mem_filter.mp hp).2
    simpa using this
  have hc := (forest_cnt nd lk hends).2.mpr hF2
  have hTl : T.length = ownN rows v := by rw [hT]; exact own_len rows v
  have hll : lk.length = lkN rows ls v := by
    rw [hlk]; unfold lkN
    congr 1
    refine List.filter_congr fun p hp => ?_
    have h := hok p hp
    have m1 : p.1 ∈ ptsOf (rows.length : Int) := mem_ptsOf.mpr (by omega)
    have m2 : p.2 ∈ ptsOf (rows.length : Int) := mem_ptsOf.mpr (by omega)
    have e : ∀ i ∈ ptsOf (rows.length : Int), decide (i ∈ T) = inRow rows v i := fun i hi => by
      rw [hT, Bool.eq_iff_iff, decide_eq_true_eq, List.mem_filter]
      exact ⟨fun z => z.2, fun z => ⟨hi, z⟩⟩
    rw [e _ m1, e _ m2]
  rw [← hlk]
  unfold holdB
  rw [decide_eq_decide]
  omega
open Classical in
noncomputable def lyB (n : Int) (es : Ties) : D → Bool
  | .tup [.lst bs, l] => !bs.isEmpty && bs.all (bagB n) && treeB bs.length l && decide (∃ rows : List (List Int), ∃ ls : Ties, bs = rows.map encI ∧ l = encT ls ∧ covB es rows = true ∧ ((ptsOf n).all fun v => holdB rows ls v) = true)
  | _ => false
theorem bagB_all {n : Int} : ∀ {xs : List D}, xs.all (bagB n) = true → ∃ rs : List (List Int), xs = rs.map encI ∧ ∀ r ∈ rs, bagI n r = true
  | [], _ => ⟨[], rfl, by simp⟩
  | x :: r, h => by
    rw [List.all_cons, Bool.and_eq_true] at h
    obtain ⟨rs, e, k⟩ := bagB_all h.2
    obtain ⟨ns, rfl, hk⟩ := bagB_lst h.1
    refine ⟨ns :: rs, by rw [e]; rfl, fun y hy => ?_⟩
    rcases List.mem_cons.mp hy with z | z
    · rw [z]; exact hk
    · exact k y z
open Classical in
theorem treeB_lst {m : Nat} {d : D} (h : treeB m d = true) : ∃ ls : Ties, d = encT ls ∧ ls.length + 1 = m ∧ (∀ p ∈ ls, 0 ≤ p.1 ∧ p.1 < p.2 ∧ p.2 < (m : Int)) ∧ Forest (ptsOf m) ls := by
  cases d with
  | lst xs =>
    by_cases hl : xs.length + 1 = m
    case neg => rw [treeB_len hl] at h; cases h
    cases ha : xs.all (isTie? m) with
    | false => rw [treeB_tie ha] at h; cases h
    | true =>
      obtain ⟨ls, rfl, hok⟩ := isTie_all ha
      rw [List.length_map] at hl
      rw [treeB_T hl hok] at h
      exact ⟨ls, rfl, hl, hok, of_decide_eq_true h⟩
  | _ => cases h
open Classical in
theorem lyB_R {n : Int} {es : Ties} {rows : List (List Int)} {ls : Ties} (hne : rows ≠ []) (hb : ∀ r ∈ rows, bagI n r = true) (ht : treeB rows.length (encT ls) = true) : lyB n es (.tup [encR rows, encT ls]) = (covB es rows && (ptsOf n).all fun v => holdB rows ls v) := by
  have h1 : (rows.map encI).all (bagB n) = true := by
    rw [List.all_map]; exact List.all_eq_true.mpr fun r hr => by simp only [Function.comp_apply, bagB_I]; exact hb r hr
  have h0 : (rows.map encI).isEmpty = false := by cases rows with
    | nil => exact absurd rfl hne
    | cons a b => rfl
  show (!(rows.map encI).isEmpty && (rows.map encI).all (bagB n) && treeB (rows.map encI).length (encT ls) && decide _) = _
  rw [h1, h0, List.length_map, ht]
  simp only [Bool.not_false, Bool.true_and]
  rw [Bool.eq_iff_iff, decide_eq_true_eq, Bool.and_eq_true]
  constructor
  · rintro ⟨rows2, ls2, e1, e2, k⟩
    rw [map_encI_inj e1, map_encP_inj (D.lst.inj e2)]; exact k
  · intro k; exact ⟨rows, ls, rfl, rfl, k⟩
end B

/-! MD: is_layout, as both see it. -/
namespace B
open PySem PySem.Spec PyProof.Rows L2 DL
/-- a thing that may be handed in as a layout -/
structure Lyt (d : D) : Prop where
  sc : ∀ ns, d ≠ .scr ns
  pr : ∀ x y, d = .tup [x, y] → (∀ ns, x ≠ .scr ns) ∧ (∀ ns, y ≠ .scr ns) ∧ (∀ xs, x = .lst xs → xs.length ≤ 1000 ∧ ∀ z ∈ xs, (∀ ns, z ≠ .scr ns) ∧ ∀ ys, z = .lst ys → ys.length < 64) ∧ ∀ ys, y = .lst ys → ys.length ≤ 1000
theorem loopFindP {i j : Nat} {s t : En → Out} {Γ : En} (I : En → Prop) (p : Int × Int → Bool) (d : D) (xs : Ties) {R : Res} (h0 : I Γ)
    (hs : ∀ x y, (x, y) ∈ xs → ∀ Γ, I Γ → (p (x, y) = true → ∃ Γ', s ((Γ.set i (.sh (.int x))).set j (.sh (.int y))) = .ret d Γ') ∧ (p (x, y) = false → ∃ Γ', (s ((Γ.set i (.sh (.int x))).set j (.sh (.int y))) = .nx Γ' ∨ s ((Γ.set i (.sh (.int x))).set j (.sh (.int y))) = .ct Γ') ∧ I Γ'))
    (k1 : xs.any p = true → Res.ok d = R) (k2 : ∀ Γ', xs.any p = false → I Γ' → (t Γ').res = R) : ((loopF (b2 i j) s (xs.map encP) Γ).seq t).res = R := by
  induction xs generalizing Γ with
  | nil => exact k2 Γ rfl h0
  | cons x r ih =>
    obtain ⟨x, y⟩ := x
    obtain ⟨h1, h2⟩ := hs x y (by simp) Γ h0
    show ((loopF (b2 i j) s (.tup [.int x, .int y] :: r.map encP) Γ).seq t).res = R
    rw [loopF_2]
    cases e : p (x, y) with
    | true =>
      obtain ⟨Γ', q⟩ := h1 e
      rw [q]
      exact k1 (by rw [List.any_cons, e]; rfl)
    | false =>
      obtain ⟨Γ1, q, hq⟩ := h2 e
      have := ih hq (fun x y hm => hs x y (by simp [hm])) (fun z => k1 (by rw [List.any_cons, e, z]; rfl)) fun Γ' z => k2 Γ' (by rw [List.any_cons, e, z]; rfl)
      rcases q with q | q <;> rw [q] <;> exact this
theorem bag_comp {i : Nat} {n : Int} {Γ : En} (xs : List D) (f : En → Option D) (hf : ∀ x ∈ xs, f (Γ.set i (.sh x)) = some (.bl (bagB n x))) : compF (bN i) bYes f Γ xs = some ((xs.map (bagB n)).map D.bl) := by
  have := compF_all (Γ := Γ) (i := i) (f := f) (fun x : D => x) D.bl (bagB n) xs hf
  rw [List.map_id'] at this
  exact this
theorem lyB_bag {n : Int} {es : Ties} {bs : List D} {y : D} (h : bs.all (bagB n) = false) : lyB n es (.tup [.lst bs, y]) = false := by
  show (_ && bs.all (bagB n) && _ && _) = _
  rw [h]; simp
theorem lyB_tree {n : Int} {es : Ties} {bs : List D} {y : D} (h : treeB bs.length y = false) : lyB n es (.tup [.lst bs, y]) = false := by
  show (_ && _ && treeB bs.length y && _) = _
  rw [h]; simp
theorem covB_any (es : Ties) (rows : List (List Int)) : covB es rows = !es.any fun p => !rows.any fun r => decide (p.1 ∈ r) && decide (p.2 ∈ r) := by
  unfold covB
  rw [List.not_any_eq_all_not]
  simp
theorem g_is_layout_eq {n : Int} {es : Ties} {d : D} (h : Web n es) (hd : Lyt d) : g_is_layout [.int n, encT es, d] = .ok (.bl (lyB n es d)) := by
  unfold g_is_layout; rw [runD_eq]; unfold m_is_layout
  have hnw := g_need_web_eq h
  cases d with
  | tup zs =>
    match zs, hd with
    | [], _ => simp [List.replicate, hnw, lyB]
    | [x], _ => simp [List.replicate, hnw, lyB]
    | x :: y :: z :: r, _ =>
      have : ¬ ((r.length : Int) + 1 + 1 + 1 = 2) := by omega
      simp [List.replicate, hnw, lyB, this]
    | [x, y], hd =>
      obtain ⟨c1, c2, c3, c4⟩ := hd.pr x y rfl
      cases x with
      | lst bs =>
        obtain ⟨hl, hx⟩ := c3 bs rfl
        cases e0 : bs.isEmpty with
        | true =>
          have e0 : bs = [] := by simpa using e0
          subst e0
          have e1 : dEq (.lst []) (.lst []) = some (.bl true) := rfl
          simp [List.replicate, hnw, lyB, e1]
        | false =>
          have hbl : bs.length ≤ 1000000 := by omega
          have hb0 : 1 ≤ bs.length := by cases bs with
            | nil => cases e0
            | cons a b => simp
          have hc := bag_comp (i := 5) (n := n) (Γ := [.sh (.int n), .sh (encT es), .sh (.tup [.lst bs, y]), .sh (.lst bs), .sh y, .no, .no, .no, .no]) bs (eCall g_is_bag (aCons (eVar 5) (aCons (eVar 0) aNil))) (fun x hx2 => by
            obtain ⟨q1, q2⟩ := hx x hx2
            have := g_is_bag_eq (n := n) q1 fun ys e => by have := q2 ys e; omega
            simp [this])
          have ht := g_is_tree_eq (m := bs.length) (d := y) hb0 hl c2 c4
          cases e1 : bs.all (bagB n) with
          | false => simp [List.replicate, hnw, dEq_nil, e0, hbl, hc, e1, lyB_bag e1, -List.map_map]
          | true =>
            cases e2 : treeB bs.length y with
            | false =>
              rw [e2] at ht
              simp [List.replicate, hnw, dEq_nil, e0, hbl, hc, e1, ht, lyB_tree e2, -List.map_map]
            | true =>
              rw [e2] at ht
              obtain ⟨rows, rfl, hk⟩ := bagB_all e1
              obtain ⟨ls, rfl, hll, hok, hF⟩ := treeB_lst e2
              rw [List.length_map] at hll hok hb0 hbl hl e2 ht
              simp only [List.length_map] at hF
              have hne : rows ≠ [] := fun z => by rw [z] at e0; cases e0
              rw [lyB_R hne hk e2]
              have e1' : (rows.all fun r => bagB n (encI r)) = true := by rw [List.all_map] at e1; exact e1
              simp [List.replicate, hnw, dEq_nil, e0, hbl, hc, ht, e1, e1', -List.map_map, -List.all_eq_true]
              rw [covB_any]
              refine loopFindP (fun Γ => ∃ x6 x7, Γ = [.sh (.int n), .sh (encT es), .sh (.tup [.lst (rows.map encI), encT ls]), .sh (.lst (rows.map encI)), .sh (encT ls), .no, x6, x7, .no]) (fun p => !rows.any fun r => decide (p.1 ∈ r) && decide (p.2 ∈ r)) (.bl false) es ⟨_, _, rfl⟩ ?_ ?_ ?_
              · rintro a b hab Γ ⟨x6, x7, rfl⟩
                have hcf := compF_fil (i := 5) (c := bAnd (tst (eOp dIn (eVar 6) (eVar 5))) (tst (eOp dIn (eVar 7) (eVar 5)))) (f := eVar 5) (Γ := [.sh (.int n), .sh (encT es), .sh (.tup [.lst (rows.map encI), encT ls]), .sh (.lst (rows.map encI)), .sh (encT ls), .no, .sh (.int a), .sh (.int b), .no]) encI (fun r => decide (a ∈ r) && decide (b ∈ r)) rows (fun r _ => by by_cases q : a ∈ r <;> simp [q]) (fun r _ => by simp)
                have hem : (rows.filter fun r => decide (a ∈ r) && decide (b ∈ r)).isEmpty = !rows.any fun r => decide (a ∈ r) && decide (b ∈ r) := by
                  rw [Bool.eq_iff_iff, List.isEmpty_iff, List.filter_eq_nil_iff, Bool.not_eq_true', List.any_eq_false]
                cases q : (rows.any fun r => decide (a ∈ r) && decide (b ∈ r)) 
                all_goals
                  have hde : dEq (.lst ((rows.filter fun r => decide (a ∈ r) && decide (b ∈ r)).map encI)) (.lst []) = some (.bl (!rows.any fun r => decide (a ∈ r) && decide (b ∈ r))) := by rw [dEq_nil, List.isEmpty_map, hem]
                  rw [q] at hde
                  simp [hbl, hcf, hde]
              · intro q
                rw [q]; rfl
              · rintro Γ q ⟨x6, x7, rfl⟩
                rw [q]
                have hn2 : n ≤ 1000000 ∧ -1000000 ≤ n := by have := h.lo; have := h.hi; omega
                have hpl : (ptsOf n).length ≤ 1000000 := by have := (pts_all n).len; have := h.hi; omega
                have hch := compF_all (i := 8) (f := eCall g_holds_together (aCons (eVar 3) (aCons (eVar 4) (aCons (eVar 8) aNil)))) (Γ := [.sh (.int n), .sh (encT es), .sh (.tup [.lst (rows.map encI), encT ls]), .sh (.lst (rows.map encI)), .sh (encT ls), .no, x6, x7, .no]) D.int D.bl (fun v => holdB rows ls v) (ptsOf n) (fun v _ => by
                  have := g_holds_together_eq (rows := rows) (ls := ls) (v := v) hl (by omega) hok
                  simp [this])
                simp [hn2, rng_pts, hpl, hch, -List.map_map]
      | scr ns => exact absurd rfl (c1 ns)
      | _ => simp [List.replicate, hnw, lyB]; try rfl
  | scr ns => exact absurd rfl (hd.sc ns)
  | _ => simp [List.replicate, hnw, lyB]; try rfl
end B

/-! MD2: is_layout, as the law sees it. -/
namespace B
open PySem PySem.Spec PyProof.Rows L2 DL
theorem g_law_is_layout_eq {n : Int} {es : Ties} {d : D} (h : Web n es) (hd : Lyt d) : g_law_is_layout [.int n, encT es, d] = .ok (.bl (lyB n es d)) := by
  unfold g_law_is_layout; rw [runD_eq]; unfold m_law_is_layout
  cases d with
  | tup zs =>
    match zs, hd with
    | [], _ => simp [List.replicate, lyB]
    | [x], _ => simp [List.replicate, lyB]
    | x :: y :: z :: r, _ =>
      have : ¬ ((r.length : Int) + 1 + 1 + 1 = 2) := by omega
      simp [List.replicate, lyB, this]
    | [x, y], hd =>
      obtain ⟨c1, c2, c3, c4⟩ := hd.pr x y rfl
      cases x with
      | lst bs =>
        obtain ⟨hl, hx⟩ := c3 bs rfl
        cases e0 : bs.isEmpty with
        | true =>
          have e0 : bs = [] := by simpa using e0
          subst e0
          have e1 : dEq (.lst []) (.lst []) = some (.bl true) := rfl
          simp [List.replicate, lyB, e1]
        | false =>
          have hbl : bs.length ≤ 1000000 := by omega
          have hb0 : 1 ≤ bs.length := by cases bs with
            | nil => cases e0
            | cons a b => simp
          have hc := bag_comp (i := 3) (n := n) (Γ := [.sh (.int n), .sh (encT es), .sh (.tup [.lst bs, y]), .no, .no, .no, .no, .no, .no, .no]) bs (eCall g_law_is_bag (aCons (eVar 3) (aCons (eVar 0) aNil))) (fun x hx2 => by
            obtain ⟨q1, q2⟩ := hx x hx2
            have := g_law_is_bag_eq (n := n) q1 q2
            simp [this])
          have ht := g_law_is_tree_eq (m := bs.length) (d := y) hb0 hl c2 c4
          cases e1 : bs.all (bagB n) with
          | false => simp [List.replicate, dEq_nil, e0, hbl, hc, e1, lyB_bag e1, -List.map_map]
          | true =>
            cases e2 : treeB bs.length y with
            | false =>
              rw [e2] at ht
              simp [List.replicate, dEq_nil, e0, hbl, hc, e1, ht, lyB_tree e2, -List.map_map]
            | true =>
              rw [e2] at ht
              obtain ⟨rows, rfl, hk⟩ := bagB_all e1
              obtain ⟨ls, rfl, hll, hok, hF⟩ := treeB_lst e2
              rw [List.length_map] at hll hok hb0 hbl hl e2 ht
              simp only [List.length_map] at hF
              have hne : rows ≠ [] := fun z => by rw [z] at e0; cases e0
              rw [lyB_R hne hk e2]
              have e1' : (rows.all fun r => bagB n (encI r)) = true := by rw [List.all_map] at e1; exact e1
              simp [List.replicate, dEq_nil, e0, hbl, hc, ht, e1, e1', -List.map_map, -List.all_eq_true]
              rw [covB_any]
              refine loopFindR encP (fun Γ => ∃ x4, Γ = [.sh (.int n), .sh (encT es), .sh (.tup [.lst (rows.map encI), encT ls]), .no, x4, .no, .no, .no, .no, .no]) (fun p => !rows.any fun r => decide (p.1 ∈ r) && decide (p.2 ∈ r)) (.bl false) es ⟨_, rfl⟩ ?_ ?_ ?_
              · rintro p hp Γ ⟨x4, rfl⟩
                have hcf := compF_all (i := 3) (f := eAnd (eOp dIn (eOp dIx (eVar 4) (eC (.int 0))) (eVar 3)) (eOp dIn (eOp dIx (eVar 4) (eC (.int 1))) (eVar 3))) (Γ := [.sh (.int n), .sh (encT es), .sh (.tup [.lst (rows.map encI), encT ls]), .no, .sh (encP p), .no, .no, .no, .no, .no]) encI D.bl (fun r => decide (p.1 ∈ r) && decide (p.2 ∈ r)) rows (fun r _ => by by_cases q : p.1 ∈ r <;> simp [q])
                have hda : dAny [.lst ((rows.map fun r => decide (p.1 ∈ r) && decide (p.2 ∈ r)).map D.bl)] = some (.bl (rows.any fun r => decide (p.1 ∈ r) && decide (p.2 ∈ r))) := by
                  rw [dAny_b, List.any_map]; rfl
                cases q : (rows.any fun r => decide (p.1 ∈ r) && decide (p.2 ∈ r))
                all_goals
                  rw [q] at hda
                  simp [hbl, hcf, hda, -List.map_map, -dAny_b]
              · intro q
                rw [q]; rfl
              · rintro Γ q ⟨x4, rfl⟩
                rw [q]
                have hn2 : n ≤ 1000000 ∧ -1000000 ≤ n := by have := h.lo; have := h.hi; omega
                have hr2 : (rows.length : Int) ≤ 1000000 := by omega
                have hrg : rng 0 rows.length = (ptsOf (rows.length : Int)).map D.int := by have := rng_pts (rows.length : Int); rwa [Int.toNat_natCast] at this
                simp [hn2, rng_pts]
                refine loopFindR D.int (fun Γ => ∃ x5 x6 x8, Γ = [.sh (.int n), .sh (encT es), .sh (.tup [.lst (rows.map encI), encT ls]), .no, x4, x5, x6, .no, x8, .no]) (fun v => !holdB rows ls v) (.bl false) (ptsOf n) ⟨_, _, _, rfl⟩ ?_ ?_ ?_
                · rintro v hv Γ ⟨x5, x6, x8, rfl⟩
                  have hcf := fun x6 x8 => compF_fil (i := 7) (c := tst (eOp dIn (eVar 5) (eOp dIx (eOp dIx (eVar 2) (eC (.int 0))) (eVar 7)))) (f := eVar 7) (Γ := [.sh (.int n), .sh (encT es), .sh (.tup [.lst (rows.map encI), encT ls]), .no, x4, .sh (.int v), x6, .no, x8, .no]) D.int (fun i => inRow rows v i) (ptsOf (rows.length : Int)) (fun i hi => by
                    have hi := mem_ptsOf.mp hi
                    obtain ⟨r1, a1, b1⟩ := inRow_at (rows := rows) (v := v) (i := i) hi.1 hi.2
                    simp [a1, b1]) (fun i _ => by simp)
                  have hone := own_one (v := v) hF hok
                  obtain ⟨T, hT⟩ : ∃ T, T = (ptsOf (rows.length : Int)).filter fun i => inRow rows v i := ⟨_, rfl⟩
                  rw [← hT] at hone
                  simp only [← hT] at hcf
                  have hTl : T.length ≤ 1000 := by
                    rw [hT]
                    have := List.length_filter_le (fun i => inRow rows v i) (ptsOf (rows.length : Int))
                    simp [ptsOf] at this
                    simp [ptsOf]
                    omega
                  have nd : T.Nodup := by rw [hT]; exact (ptsOf_nodup _).sublist List.filter_sublist
                  have hlf := fun x8 => compF_fil (i := 9) (c := bAnd (tst (eOp dIn (eOp dIx (eVar 9) (eC (.int 0))) (eVar 6))) (tst (eOp dIn (eOp dIx (eVar 9) (eC (.int 1))) (eVar 6)))) (f := eVar 9) (Γ := [.sh (.int n), .sh (encT es), .sh (.tup [.lst (rows.map encI), encT ls]), .no, x4, .sh (.int v), .sh (.lst (T.map D.int)), .no, x8, .no]) encP (fun p => decide (p.1 ∈ T) && decide (p.2 ∈ T)) ls (fun p _ => by by_cases q : p.1 ∈ T <;> simp [q]) (fun p _ => by simp)
                  obtain ⟨lk, hlk⟩ : ∃ lk, lk = ls.filter fun p => decide (p.1 ∈ T) && decide (p.2 ∈ T) := ⟨_, rfl⟩
                  rw [← hlk] at hone
                  simp only [← hlk] at hlf
                  have ham := g_law_among_eq (es := lk) nd hTl
                  have hls : ls.length ≤ 1000000 := by omega
                  have hpr : (ptsOf (rows.length : Int)).length ≤ 1000000 := by simp [ptsOf]; omega
                  cases q : holdB rows ls v
                  all_goals
                    rw [q] at hone
                    simp [hr2, hrg, hpr, hcf, hlf, ham, hls]
                  · have hne : ¬ ((comps lk T).length : Int) = 1 := by have := of_decide_eq_false hone; omega
                    simp [hne]
                  · have hne : ((comps lk T).length : Int) = 1 := by have := of_decide_eq_true hone; omega
                    simp [hne]
                · intro z
                  have : ((ptsOf n).all fun v => holdB rows ls v) = false := by
                    rw [Bool.eq_false_iff]; intro k
                    obtain ⟨v, hv, q⟩ := List.any_eq_true.mp z
                    rw [List.all_eq_true.mp k v hv] at q; cases q
                  rw [this]
                · rintro Γ z ⟨x5, x6, x8, rfl⟩
                  have : ((ptsOf n).all fun v => holdB rows ls v) = true := List.all_eq_true.mpr fun v hv => by
                    have := List.any_eq_false.mp z v hv
                    simpa using this
                  rw [this]; rfl
      | scr ns => exact absurd rfl (c1 ns)
      | _ => simp [List.replicate, lyB]; try rfl
  | scr ns => exact absurd rfl (hd.sc ns)
  | _ => simp [List.replicate, lyB]; try rfl
end B

/-! ME: what elimination gives is a layout; plain. -/
namespace B
open PySem PySem.Spec PyProof.Rows L2 DL
structure Eli (N : Nat) (es : Ties) (o : Nat → Int) (L : Nat → List Int) (par : Nat → Nat) : Prop where
  inj : ∀ i j, i < N → j < N → o i = o j → i = j
  rng : ∀ i, i < N → 0 ≤ o i ∧ o i < N
  later : ∀ k, k < N → ∀ v ∈ L k, ∃ i, k < i ∧ i < N ∧ v = o i
  ndL : ∀ k, k < N → (L k).Nodup
  tie : ∀ i j, i < j → j < N → Adj es (o i) (o j) → o j ∈ L i
  fill : ∀ k i j, k < N → i < j → j < N → o i ∈ L k → o j ∈ L k → o j ∈ L i
  par1 : ∀ k, k + 1 < N → k < par k ∧ par k < N
  par2 : ∀ k, k + 1 < N → ∀ i, i < N → o i ∈ L k → par k ≤ i
  par3 : ∀ k, k + 1 < N → L k ≠ [] → o (par k) ∈ L k
theorem srt_inc {ns : List Int} (h : ns.Nodup) : (srt ns).Pairwise (· < ·) := by
  have h1 := srt_sorted ns
  have h2 := srt_nodup h
  exact (h1.and h2).imp fun ⟨a, b⟩ => by omega
def bagOf (o : Nat → Int) (L : Nat → List Int) (k : Nat) : List Int := srt (L k ++ [o k])
def bagsOf (N : Nat) (o : Nat → Int) (L : Nat → List Int) : List (List Int) := (List.range N).map (bagOf o L)
def linksOf (N : Nat) (par : Nat → Nat) : Ties := (List.range (N - 1)).map fun (k : Nat) => ((k : Int), (par k : Int))
theorem mem_bagOf {o : Nat → Int} {L : Nat → List Int} {k : Nat} {v : Int} : v ∈ bagOf o L k ↔ v ∈ L k ∨ v = o k := by
  unfold bagOf; rw [mem_srt, List.mem_append, List.mem_singleton]
theorem inRow_of {N : Nat} {o : Nat → Int} {L : Nat → List Int} {v : Int} {k : Nat} (h : k < N) : inRow (bagsOf N o L) v k = decide (v ∈ bagOf o L k) := by
  unfold inRow bagsOf
  rw [Int.toNat_natCast, List.getElem?_map, List.getElem?_range h]; rfl
namespace Eli
variable {N : Nat} {es : Ties} {o : Nat → Int} {L : Nat → List Int} {par : Nat → Nat}
theorem sur (e : Eli N es o L par) {v : Int} (h0 : 0 ≤ v) (h1 : v < N) : ∃ i, i < N ∧ o i = v := by
  have nd : ((List.range N).map o).Nodup := by
    refine List.pairwise_map.mpr (List.Pairwise.imp_of_mem (R := fun a b => a < b) (fun ha hb hab z => ?_) List.pairwise_lt_range)
    have := e.inj _ _ (List.mem_range.mp ha) (List.mem_range.mp hb) z
    omega
  have := all_of_len (ys := ptsOf (N : Int)) nd (fun x hx => by
    obtain ⟨i, hi, rfl⟩ := List.mem_map.mp hx
    exact mem_ptsOf.mpr (e.rng i (List.mem_range.mp hi))) (by simp [ptsOf]) v (mem_ptsOf.mpr ⟨h0, h1⟩)
  obtain ⟨i, hi, rfl⟩ := List.mem_map.mp this
  exact ⟨i, List.mem_range.mp hi, rfl⟩
theorem out (e : Eli N es o L par) {i j : Nat} (hi : i < N) (hj : j < N) (h : i ≤ j) : o i ∉ L j := fun z => by
  obtain ⟨k, h1, h2, h3⟩ := e.later j hj _ z
  have := e.inj i k hi h2 h3
  omega
theorem bagI (e : Eli N es o L par) {k : Nat} (hk : k < N) : bagI N (bagOf o L k) = true := by
  unfold B.bagI
  rw [Bool.and_eq_true]
  refine ⟨List.all_eq_true.mpr fun x hx => decide_eq_true ?_, decide_eq_true (inc_iff.mp (srt_inc ?_))⟩
  · rcases mem_bagOf.mp hx with z | z
    · obtain ⟨i, h1, h2, h3⟩ := e.later k hk x z
      rw [h3]; exact e.rng i h2
    · rw [z]; exact e.rng k hk
  · refine List.nodup_append.mpr ⟨e.ndL k hk, by simp, fun x hx y hy z => ?_⟩
    simp at hy
    subst hy z
    exact e.out hk hk (Nat.le_refl _) hx
theorem links_ok (e : Eli N es o L par) : ∀ p ∈ linksOf N par, 0 ≤ p.1 ∧ p.1 < p.2 ∧ p.2 < (N : Int) := fun p hp => by
  obtain ⟨k, hk, rfl⟩ := List.mem_map.mp hp
  have hk := List.mem_range.mp hk
  have := e.par1 k (by omega)
  show (0 : Int) ≤ k ∧ (k : Int) < (par k : Nat) ∧ ((par k : Nat) : Int) < N
  omega
theorem con (e : Eli N es o L par) : ∀ d k, k + d + 1 = N → Con (linksOf N par) (ptsOf N) k ((N : Int) - 1) := by
  intro d
  induction d using Nat.strongRecOn with
  | _ d ih =>
    intro k hk
    have hm : ∀ j : Nat, j < N → (j : Int) ∈ ptsOf N := fun j hj => mem_ptsOf.mpr (by omega)
    by_cases hd : d = 0
    · have : (k : Int) = (N : Int) - 1 := by omega
      rw [← this]; exact .refl (hm k (by omega))
    · have hp := e.par1 k (by omega)
      have h1 : Adj (linksOf N par) k (par k) := .inl (List.mem_map.mpr ⟨k, List.mem_range.mpr (by omega), rfl⟩)
      exact (Con.one (hm k (by omega)) h1 (hm _ hp.2)).trans (ih (N - 1 - par k) (by omega) (par k) (by omega))
theorem forest (e : Eli N es o L par) (hN : 1 ≤ N) : Forest (ptsOf N) (linksOf N par) := by
  have h0 : (0 : Int) ∈ ptsOf N := mem_ptsOf.mpr (by omega)
  refine (tree_iff (ptsOf_nodup N) h0 (fun p hp => ?_) ?_).mp fun a ha => ?_
  · have := e.links_ok p hp
    exact ⟨mem_ptsOf.mpr (by omega), mem_ptsOf.mpr (by omega)⟩
  · simp [linksOf, ptsOf]; omega
  · have ha := mem_ptsOf.mp ha
    have h1 := e.con (N - 1) 0 (by omega)
    have h2 := e.con (N - 1 - a.toNat) a.toNat (by omega)
    rw [Int.toNat_of_nonneg ha.1] at h2
    exact h1.trans h2.symm
theorem cov (e : Eli N es o L par) (hok : ∀ p ∈ es, 0 ≤ p.1 ∧ p.1 < p.2 ∧ p.2 < (N : Int)) : covB es (bagsOf N o L) = true := by
  refine List.all_eq_true.mpr fun p hp => ?_
  obtain ⟨a, b⟩ := p
  have h := hok _ hp
  obtain ⟨i, hi, ei⟩ := e.sur (v := a) (by simp at h; omega) (by simp at h; omega)
  obtain ⟨j, hj, ej⟩ := e.sur (v := b) (by simp at h; omega) (by simp at h; omega)
  have hne : i ≠ j := fun z => by rw [z, ej] at ei; simp at h; omega
  rw [List.any_eq_true]
  rcases Nat.lt_or_gt_of_ne hne with q | q
  · refine ⟨bagOf o L i, List.mem_map.mpr ⟨i, List.mem_range.mpr hi, rfl⟩, ?_⟩
    have := e.tie i j q hj (by rw [ei, ej]; exact .inl hp)
    rw [ej] at this
    simp [mem_bagOf, ei, this]
  · refine ⟨bagOf o L j, List.mem_map.mpr ⟨j, List.mem_range.mpr hj, rfl⟩, ?_⟩
    have := e.tie j i q hi (by rw [ei, ej]; exact .inr hp)
    rw [ei] at this
    simp [mem_bagOf, ej, this]
theorem up (e : Eli N es o L par) {i k : Nat} (hi : i < N) (hk : k + 1 < N) (h : o i ∈ bagOf o L k) : o i ∈ bagOf o L (par k) ↔ k ≠ i := by
  have hp := e.par1 k hk
  constructor
  · rintro z rfl
    rcases mem_bagOf.mp z with q | q
    · exact e.out hi hp.2 (by omega) q
    · have := e.inj _ _ hi hp.2 q; omega
  · intro hne
    rcases mem_bagOf.mp h with q | q
    · have h2 := e.par2 k hk i hi q
      rcases Nat.lt_or_eq_of_le h2 with z | z
      · have h3 := e.par3 k hk (fun y => by rw [y] at q; cases q)
        exact mem_bagOf.mpr (.inl (e.fill k (par k) i (by omega) z hi h3 q))
      · exact mem_bagOf.mpr (.inr (by rw [z]))
    · have := e.inj _ _ hi (by omega) q; omega
theorem filter_oneN {S : List Nat} {P Q : Nat → Bool} {m : Nat} (nd : S.Nodup) (hm : m ∈ S) (hp : P m = true) (hq : ∀ x ∈ S, Q x = (P x && decide (x ≠ m))) : (S.filter P).length = (S.filter Q).length + 1 := by
  have e : S.filter Q = (S.filter P).filter fun x => decide (x ≠ m) := by
    rw [List.filter_filter]
    exact List.filter_congr fun x hx => by rw [hq x hx, Bool.and_comm]
  have nd2 : (S.filter P).Nodup := nd.sublist List.filter_sublist
  have hm2 : m ∈ S.filter P := List.mem_filter.mpr ⟨hm, hp⟩
  rw [e]
  obtain ⟨a, b, e2⟩ := List.append_of_mem hm2
  rw [e2] at nd2 ⊢
  obtain ⟨n1, n2, n3⟩ := List.nodup_append.mp nd2
  have n4 := (List.nodup_cons.mp n2).1
  have ea : a.filter (fun x => decide (x ≠ m)) = a := List.filter_eq_self.mpr fun x hx => decide_eq_true fun z => n3 x hx m (by simp) z
  have eb : b.filter (fun x => decide (x ≠ m)) = b := List.filter_eq_self.mpr fun x hx => decide_eq_true fun z => n4 (z ▸ hx)
  rw [List.filter_append, List.filter_cons, ea, eb]
  simp
  omega
theorem hold (e : Eli N es o L par) {v : Int} (h0 : 0 ≤ v) (h1 : v < N) : holdB (bagsOf N o L) (linksOf N par) v = true := by
  obtain ⟨i, hi, rfl⟩ := e.sur h0 h1
  refine decide_eq_true ?_
  have e1 : ownN (bagsOf N o L) (o i) = ((List.range N).filter fun k => decide (o i ∈ bagOf o L k)).length := by
    unfold ownN bagsOf
    rw [filter_map_filter, List.length_map]
  have e2 : lkN (bagsOf N o L) (linksOf N par) (o i) = ((List.range (N - 1)).filter fun k => decide (o i ∈ bagOf o L k) && decide (k ≠ i)).length := by
    unfold lkN linksOf
    rw [filter_map_filter, List.length_map]
    congr 1
    refine List.filter_congr fun k hk => ?_
    have hk := List.mem_range.mp hk
    have hp := e.par1 k (by omega)
    show (inRow (bagsOf N o L) (o i) k && inRow (bagsOf N o L) (o i) (par k)) = _
    rw [inRow_of (show k < N by omega), inRow_of hp.2]
    by_cases z : o i ∈ bagOf o L k
    · have := e.up hi (by omega) z
      rw [decide_eq_true z, Bool.true_and, Bool.true_and, decide_eq_decide]
      exact this
    · rw [decide_eq_false z]; rfl
  have e3 := filter_oneN (S := List.range N) (P := fun k => decide (o i ∈ bagOf o L k)) (Q := fun k => decide (o i ∈ bagOf o L k) && decide (k ≠ i)) (m := i) List.nodup_range (List.mem_range.mpr hi) (decide_eq_true (mem_bagOf.mpr (.inr rfl))) fun _ _ => rfl
  obtain ⟨M, rfl⟩ : ∃ M, N = M + 1 := ⟨N - 1, by omega⟩
  have e4 : ((List.range (M + 1)).filter fun k => decide (o i ∈ bagOf o L k) && decide (k ≠ i)) = ((List.range M).filter fun k => decide (o i ∈ bagOf o L k) && decide (k ≠ i)) := by
    rw [List.range_succ, List.filter_append]
    have : (decide (o i ∈ bagOf o L M) && decide (M ≠ i)) = false := by
      by_cases z : M = i
      · simp [z]
      · have : ¬ o i ∈ bagOf o L M := fun q => by
          rcases mem_bagOf.mp q with q | q
          · exact e.out hi (by omega) (by omega) q
          · exact z (e.inj _ _ (by omega) hi q.symm)
        simp [this]
    rw [List.filter_cons, this]
    simp
  rw [e1, e2, e3, e4]
  simp
end Eli
theorem Eli.layout {n : Int} {es : Ties} {o : Nat → Int} {L : Nat → List Int} {par : Nat → Nat} (h : Web n es) (e : Eli n.toNat es o L par) : lyB n es (.tup [encR (bagsOf n.toNat o L), encT (linksOf n.toNat par)]) = true := by
  classical
  have hn : ((n.toNat : Nat) : Int) = n := by have := h.lo; omega
  have hN : 1 ≤ n.toNat := by have := h.lo; omega
  have hbl : (bagsOf n.toNat o L).length = n.toNat := by simp [bagsOf]
  rw [lyB_R]
  · rw [Bool.and_eq_true]
    refine ⟨e.cov (by rw [hn]; exact h.ok), List.all_eq_true.mpr fun v hv => ?_⟩
    have := mem_ptsOf.mp hv
    exact e.hold this.1 (by omega)
  · intro z
    have := congrArg List.length z
    rw [hbl] at this
    simp at this; omega
  · intro r hr
    obtain ⟨k, hk, rfl⟩ := List.mem_map.mp hr
    have := e.bagI (List.mem_range.mp hk)
    rw [hn] at this
    exact this
  · rw [hbl, treeB_T (by simp [linksOf]; omega) e.links_ok]
    exact decide_eq_true (e.forest hN)
end B

/-! MF: the order, and the elimination; the law's walk. -/
namespace B
open PySem PySem.Spec PyProof.Rows L2 DL
theorem pts_split {m x : Int} {pre post : List Int} (h : ptsOf m = pre ++ x :: post) : x = pre.length ∧ pre.length < m.toNat := by
  have h1 := congrArg List.length h
  have h2 := congrArg (fun z => z[pre.length]?) h
  simp [ptsOf] at h1 h2
  have : (List.range m.toNat)[pre.length]? = some pre.length := List.getElem?_range (by omega)
  rw [this] at h2
  simp at h2
  omega
theorem appPop_at {x0 x1 : Sl} {es ds : List D} {k : Nat} {d : D} {f : En → Option D} (hf : f [x0, x1, .ol es, .ol ds] = some (.int k)) (hd : ds.length < 1000000) (hk : k < es.length) (he : es.length ≤ 1000) (hat : es[k]? = some d) :
    sAppPop 3 2 f [x0, x1, .ol es, .ol ds] = .nx [x0, x1, .ol (es.eraseIdx k), .ol (ds ++ [d])] := by
  unfold sAppPop
  rw [hf]
  have he2 : es[k] = d := by rw [List.getElem?_eq_getElem hk] at hat; exact Option.some.inj hat
  simp [hd, hk, he, he2]
theorem order_ex {n c : Int} (h : 1 ≤ n ∧ n ≤ 10) : ∃ ord : List Int, ord.Perm (ptsOf n) ∧ g_law_order_by [.int c, .int n] = .ok (encI ord) := by
  unfold g_law_order_by; rw [runD_eq]; unfold m_law_order_by
  have hn : 0 ≤ n ∧ n ≤ 1000000 := by omega
  simp [List.replicate, hn, rng_pts]
  have hw := while_all (c := bBor [2] (tst (eOp dNe (eVar 2) (eLst aNil)))) (s := sSeq (sAppPop 3 2 (eOp dMod (eVar 0) (eBor [2] (eCB dLen (aCons (eVar 2) aNil))))) (sSet 0 (eOp dFdiv (eVar 0) (eOp dAdd (eBor [2] (eCB dLen (aCons (eVar 2) aNil))) (eC (.int 1))))))
    (fun m Γ => ∃ (c' : Int) (left made : List Int), (made ++ left).Perm (ptsOf n) ∧ left.length = m ∧ Γ = [.sh (.int c'), .sh (.int n), .ol (left.map D.int), .ol (made.map D.int)]) (by
    rintro m Γ ⟨c', left, made, hp, hl, rfl⟩
    have hpl := hp.length_eq
    simp [ptsOf] at hpl
    have hne : dNe (.lst (left.map D.int)) (.lst []) = some (.bl (!decide (left = []))) := dNe_L left []
    by_cases e : left = []
    · exact .inl (by simp [hne, e]; subst e; rfl)
    · refine .inr ⟨by simp [hne, e], ?_⟩
      have hl0 : 0 < left.length := List.length_pos_iff.mpr e
      obtain ⟨k, hk⟩ : ∃ k : Nat, c' % (left.length : Int) = k := ⟨(c' % (left.length : Int)).toNat, by have := Int.emod_nonneg c' (show (left.length : Int) ≠ 0 by omega); omega⟩
      have hkl : k < left.length := by have := Int.emod_lt_of_pos c' (show (0 : Int) < left.length by omega); omega
      have hat : (left.map D.int)[k]? = some (.int left[k]) := by rw [List.getElem?_map, List.getElem?_eq_getElem hkl]; rfl
      have hap := appPop_at (x0 := .sh (.int c')) (x1 := .sh (.int n)) (es := left.map D.int) (ds := made.map D.int) (k := k) (f := eOp dMod (eVar 0) (eBor [2] (eCB dLen (aCons (eVar 2) aNil)))) (by simp [hl0, hk]) (by simp; omega) (by simpa using hkl) (by simp; omega) hat
      have her : (left.map D.int).eraseIdx k = (left.eraseIdx k).map D.int := by rw [List.eraseIdx_eq_take_drop_succ, List.eraseIdx_eq_take_drop_succ]; simp
      have hel : (left.eraseIdx k).length = left.length - 1 := by rw [List.length_eraseIdx]; simp [hkl]
      have hp1 : (0 : Int) < ((left.eraseIdx k).length : Int) + 1 := by omega
      have hp2 : ((left.eraseIdx k).length : Int) + 1 < 18446744073709551616 := by omega
      rw [her] at hap
      refine ⟨[.sh (.int (c' / (((left.eraseIdx k).length : Int) + 1))), .sh (.int n), .ol ((left.eraseIdx k).map D.int), .ol ((made ++ [left[k]]).map D.int)], m - 1, by omega, .inl ?_, _, left.eraseIdx k, made ++ [left[k]], ?_, by omega, rfl⟩
      · simp [hap, hp1, hp2]
      · refine List.Perm.trans ?_ hp
        rw [List.append_assoc]
        refine List.Perm.append_left _ ?_
        have e0 : left.take k ++ left[k] :: left.drop (k + 1) = left := by rw [← List.drop_eq_getElem_cons hkl, List.take_append_drop]
        rw [List.eraseIdx_eq_take_drop_succ]
        exact (List.perm_middle (l₁ := left.take k) (a := left[k]) (l₂ := left.drop (k + 1))).symm.trans (List.Perm.of_eq e0))
  obtain ⟨Γ', m', e1, ⟨c', left, made, hp, hl, rfl⟩, hc⟩ := hw n.toNat 1000000 [.sh (.int c), .sh (.int n), .ol ((ptsOf n).map D.int), .ol []] (by omega) ⟨c, ptsOf n, [], by simp, by simp [ptsOf], rfl⟩
  have hne : dNe (.lst (left.map D.int)) (.lst []) = some (.bl (!decide (left = []))) := dNe_L left []
  have hl0 : left = [] := by
    simp [hne] at hc
    exact hc
  refine ⟨made, ?_, ?_⟩
  · rw [hl0] at hp; simpa using hp
  · rw [e1]; simp
end B

/-! MG: elimination, step by step; plain. -/
namespace B
open PySem PySem.Spec PyProof.Rows L2 DL
def bnd : Nat → Nat
  | 0 => 0
  | k + 1 => bnd k + (8 - k)
theorem bnd_le : ∀ k, k ≤ 11 → bnd k ≤ 36 := fun k hk => by
  have : ∀ k ∈ List.range 12, bnd k ≤ 36 := by decide
  exact this k (List.mem_range.mpr (by omega))
/-- an order of the points -/
structure Ord (N : Nat) (o : Nat → Int) : Prop where
  inj : ∀ i j, i < N → j < N → o i = o j → i = j
  rng : ∀ i, i < N → 0 ≤ o i ∧ o i < N
def ordL (N : Nat) (o : Nat → Int) : List Int := (List.range N).map o
theorem ord_of {n : Int} {ord : List Int} (h0 : 0 ≤ n) (h : ord.Perm (ptsOf n)) : ∃ o, Ord n.toNat o ∧ ord = ordL n.toNat o := by
  have hl : ord.length = n.toNat := by rw [h.length_eq]; simp [ptsOf]
  have nd : ord.Nodup := h.nodup_iff.mpr (ptsOf_nodup n)
  have e : ∀ i (hi : i < n.toNat), ord.getD i 0 = ord[i]'(by omega) := fun i hi => by
    rw [List.getD_eq_getElem?_getD, List.getElem?_eq_getElem (by omega)]; rfl
  refine ⟨fun i => ord.getD i 0, ⟨fun i j hi hj z => ?_, fun i hi => ?_⟩, ?_⟩
  · rw [e i hi, e j hj] at z
    exact (List.getElem_inj nd).mp z
  · rw [e i hi]
    have := mem_ptsOf.mp (h.mem_iff.mp (List.getElem_mem (l := ord) (n := i) (by omega)))
    omega
  · unfold ordL
    refine List.ext_getElem? fun i => ?_
    rw [List.getElem?_map]
    by_cases hi : i < n.toNat
    · rw [List.getElem?_range hi, List.getElem?_eq_getElem (by omega)]
      show _ = some (ord.getD i 0)
      rw [e i hi]
    · rw [List.getElem?_eq_none (by omega), List.getElem?_eq_none (by simp; omega)]; rfl
theorem mem_drop {N : Nat} {o : Nat → Int} {k : Nat} {v : Int} : v ∈ (ordL N o).drop k ↔ ∃ i, k ≤ i ∧ i < N ∧ v = o i := by
  unfold ordL
  rw [← List.map_drop, List.mem_map]
  constructor
  · rintro ⟨i, hi, rfl⟩
    rw [List.range_eq_range', List.drop_range'] at hi
    have := List.mem_range'.mp hi
    exact ⟨i, by omega, by omega, rfl⟩
  · rintro ⟨i, h1, h2, rfl⟩
    refine ⟨i, ?_, rfl⟩
    rw [List.range_eq_range', List.drop_range']
    exact List.mem_range'.mpr ⟨i - k, by omega, by omega⟩
/-- a way from one to another by ones that go ahead of the k-th -/
inductive Pth (es : Ties) (o : Nat → Int) (N : Nat) : Nat → Nat → Nat → Prop
  | edge {k i m : Nat} : i < N → m < N → Adj es (o i) (o m) → Pth es o N k i m
  | step {k i c m : Nat} : Pth es o N k i c → c < k → m < N → Adj es (o c) (o m) → Pth es o N k i m
namespace Pth
variable {es : Ties} {o : Nat → Int} {N k k' i c m : Nat}
theorem left (h : Pth es o N k i m) : i < N := by induction h <;> assumption
theorem right (h : Pth es o N k i m) : m < N := by cases h <;> assumption
theorem mono (hk : k ≤ k') (h : Pth es o N k i m) : Pth es o N k' i m := by
  induction h with
  | edge a b e => exact .edge a b e
  | step _ a b e ih => exact .step ih (by omega) b e
theorem trans (h : Pth es o N k i c) (hc : c < k) (h2 : Pth es o N k c m) : Pth es o N k i m := by
  induction h2 with
  | edge a b e => exact .step h hc b e
  | step _ a b e ih => exact .step ih a b e
theorem symm (h : Pth es o N k i m) : Pth es o N k m i := by
  induction h with
  | edge a b e => exact .edge b a e.symm
  | step p a b e ih => exact (Pth.edge b p.right e.symm).trans a ih
/-- by the k-th, or past it -/
theorem split (h : Pth es o N (k + 1) i m) : Pth es o N k i m ∨ (Pth es o N k i k ∧ Pth es o N k k m) := by
  induction h with
  | edge a b e => exact .inl (.edge a b e)
  | @step c m p a b e ih =>
    rcases ih with q | ⟨q1, q2⟩
    · by_cases z : c < k
      · exact .inl (.step q z b e)
      · have : c = k := by omega
        subst this
        exact .inr ⟨q, .edge p.right b e⟩
    · by_cases z : c < k
      · exact .inr ⟨q1, .step q2 z b e⟩
      · have : c = k := by omega
        subst this
        exact .inr ⟨q1, .edge p.right b e⟩
end Pth
theorem Ord.sur {N : Nat} {o : Nat → Int} (e : Ord N o) {v : Int} (h0 : 0 ≤ v) (h1 : v < N) : ∃ i, i < N ∧ o i = v := by
  have nd : ((List.range N).map o).Nodup := by
    refine List.pairwise_map.mpr (List.Pairwise.imp_of_mem (R := fun a b => a < b) (fun ha hb hab z => ?_) List.pairwise_lt_range)
    have := e.inj _ _ (List.mem_range.mp ha) (List.mem_range.mp hb) z
    omega
  have := all_of_len (ys := ptsOf (N : Int)) nd (fun x hx => by
    obtain ⟨i, hi, rfl⟩ := List.mem_map.mp hx
    exact mem_ptsOf.mpr (e.rng i (List.mem_range.mp hi))) (by simp [ptsOf]) v (mem_ptsOf.mpr ⟨h0, h1⟩)
  obtain ⟨i, hi, rfl⟩ := List.mem_map.mp this
  exact ⟨i, List.mem_range.mp hi, rfl⟩
/-- how far the elimination has come: R the rows, L those left behind -/
structure ElS (N : Nat) (es : Ties) (o : Nat → Int) (k : Nat) (R : Nat → List Int) (L : Nat → List Int) : Prop where
  adj : ∀ i j, i < N → j < N → Adj es (o i) (o j) → o j ∈ R (o i).toNat
  later : ∀ j, j < k → ∀ v ∈ L j, ∃ i, j < i ∧ i < N ∧ v = o i
  ndL : ∀ j, j < k → (L j).Nodup
  tie : ∀ i j, i < k → i < j → j < N → Adj es (o i) (o j) → o j ∈ L i
  fillR : ∀ q i j, q < k → i ≠ j → i < N → j < N → o i ∈ L q → o j ∈ L q → o j ∈ R (o i).toNat
  fill : ∀ q i j, q < k → i < k → i < j → j < N → o i ∈ L q → o j ∈ L q → o j ∈ L i
  len : ∀ u, u < N → (R u).length ≤ 18 + bnd k
  sndR : ∀ i, i < N → ∀ v ∈ R (o i).toNat, ∃ m, m < N ∧ v = o m ∧ Pth es o N k i m
  sndL : ∀ j m, j < k → m < N → o m ∈ L j → Pth es o N j j m
def latr (N : Nat) (o : Nat → Int) (k : Nat) (R : Nat → List Int) : List Int := srt (ddp ((R (o k).toNat).filter fun v => decide (v ∈ (ordL N o).drop (k + 1))))
def grow (lt pre : List Int) (R : Nat → List Int) : Nat → List Int := fun u => R u ++ (if (u : Int) ∈ pre then lt.filter (fun v => decide (v ≠ (u : Int))) else [])
theorem mem_later {N : Nat} {o : Nat → Int} {k : Nat} {R : Nat → List Int} {v : Int} : v ∈ latr N o k R ↔ v ∈ R (o k).toNat ∧ ∃ i, k + 1 ≤ i ∧ i < N ∧ v = o i := by
  unfold latr
  rw [mem_srt, mem_ddp, List.mem_filter, decide_eq_true_eq, mem_drop]
theorem later_nd (N : Nat) (o : Nat → Int) (k : Nat) (R : Nat → List Int) : (latr N o k R).Nodup := srt_nodup (ddp_nodup _)
theorem later_len {N : Nat} {o : Nat → Int} {k : Nat} {R : Nat → List Int} : (latr N o k R).length ≤ N - (k + 1) := by
  have := nodup_sub_len (ys := (ordL N o).drop (k + 1)) (later_nd N o k R) fun x hx => mem_drop.mpr (mem_later.mp hx).2
  simpa [ordL] using this
theorem ElS.start {N : Nat} {es : Ties} {o : Nat → Int} (ho : Ord N o) (hok : ∀ p ∈ es, 0 ≤ p.1 ∧ p.1 < p.2 ∧ p.2 < (N : Int)) (hl : es.length ≤ 18) : ElS N es o 0 (fun v => nbs es v) fun _ => [] := by
  refine ⟨fun i j hi hj a => ?_, fun j hj => absurd hj (Nat.not_lt_zero _), fun j hj => absurd hj (Nat.not_lt_zero _), fun i j hi => absurd hi (Nat.not_lt_zero _), fun q i j hq => absurd hq (Nat.not_lt_zero _), fun q i j hq => absurd hq (Nat.not_lt_zero _), fun u hu => ?_, fun i hi v hv => ?_, fun j m hj => absurd hj (Nat.not_lt_zero _)⟩
  · have := (ho.rng i hi).1
    show o j ∈ nbs es ((o i).toNat : Int)
    rw [Int.toNat_of_nonneg this]
    exact mem_nbs.mpr a
  · have h1 : ∀ fs : Ties, (∀ p ∈ fs, p.1 < p.2) → (nbs fs u).length ≤ fs.length := fun fs => by
      induction fs with
      | nil => intro _; simp [nbs]
      | cons p r ih =>
        intro h
        have i := ih fun q hq => h q (by simp [hq])
        have hp := h p (by simp)
        have e : nbs (p :: r) u = ((if p.1 = u then [p.2] else []) ++ (if p.2 = u then [p.1] else [])) ++ nbs r u := by unfold nbs; rw [List.flatMap_cons]
        rw [e, List.length_append, List.length_append, List.length_cons]
        by_cases q1 : p.1 = u
        · have q2 : ¬ p.2 = u := by omega
          rw [if_pos q1, if_neg q2]; simp; omega
        · rw [if_neg q1]
          by_cases q2 : p.2 = u
          · rw [if_pos q2]; simp; omega
          · rw [if_neg q2]; simp; omega
    have := h1 es fun p hp => (hok p hp).2.1
    show (nbs es u).length ≤ 18 + bnd 0
    unfold bnd; omega
  · have h0 := (ho.rng i hi).1
    have hv : v ∈ nbs es ((o i).toNat : Int) := hv
    rw [Int.toNat_of_nonneg h0] at hv
    have a := mem_nbs.mp hv
    have hr : 0 ≤ v ∧ v < N := by
      rcases a with a | a
      · have := hok _ a; simp at this; omega
      · have := hok _ a; simp at this; omega
    obtain ⟨m, hm, rfl⟩ := ho.sur hr.1 hr.2
    exact ⟨m, hm, rfl, .edge hi hm a⟩
theorem ElS.next {N : Nat} {es : Ties} {o : Nat → Int} {k : Nat} {R : Nat → List Int} {L : Nat → List Int} (ho : Ord N o) (hN : N ≤ 10) (h : ElS N es o k R L) (hk : k < N) :
    ElS N es o (k + 1) (grow (latr N o k R) (latr N o k R) R) (fun j => if j = k then latr N o k R else L j) := by
  have hR : ∀ u v, v ∈ R u → v ∈ grow (latr N o k R) (latr N o k R) R u := fun u v hv => List.mem_append_left _ hv
  have hL : ∀ j, j < k → (if j = k then latr N o k R else L j) = L j := fun j hj => if_neg (by omega)
  refine ⟨fun i j hi hj a => hR _ _ (h.adj i j hi hj a), fun j hj v hv => ?_, fun j hj => ?_, fun i j hi hij hj a => ?_, fun q i j hq hij hi hj h1 h2 => ?_, fun q i j hq hi hij hj h1 h2 => ?_, fun u hu => ?_, fun i hi v hv => ?_, fun j m hj hm hv => ?_⟩
  · by_cases z : j = k
    · subst z
      simp only [if_true] at hv
      obtain ⟨_, i, h1, h2, h3⟩ := mem_later.mp hv
      exact ⟨i, h1, h2, h3⟩
    · rw [if_neg z] at hv
      exact h.later j (by omega) v hv
  · by_cases z : j = k
    · rw [if_pos z]; exact later_nd N o k R
    · rw [if_neg z]; exact h.ndL j (by omega)
  · by_cases z : i = k
    · subst z
      simp only [if_true]
      exact mem_later.mpr ⟨h.adj i j hk hj a, j, hij, hj, rfl⟩
    · rw [if_neg z]
      exact h.tie i j (by omega) hij hj a
  · by_cases z : q = k
    · subst z
      simp only [if_true] at h1 h2
      unfold grow
      have hoi := (ho.rng i hi).1
      refine List.mem_append_right _ ?_
      rw [Int.toNat_of_nonneg hoi, if_pos h1, List.mem_filter]
      exact ⟨h2, decide_eq_true fun e => hij (ho.inj i j hi hj e.symm)⟩
    · rw [if_neg z] at h1 h2
      exact hR _ _ (h.fillR q i j (by omega) hij hi hj h1 h2)
  · by_cases z : q = k
    · subst z
      simp only [if_true] at h1
      obtain ⟨_, i2, h3, h4, h5⟩ := mem_later.mp h1
      have := ho.inj i i2 (by omega) h4 h5
      omega
    · rw [if_neg z] at h1 h2
      by_cases z2 : i = k
      · subst z2
        simp only [if_true]
        exact mem_later.mpr ⟨h.fillR q i j (by omega) (by omega) (by omega) hj h1 h2, j, hij, hj, rfl⟩
      · rw [if_neg z2]
        exact h.fill q i j (by omega) (by omega) hij hj h1 h2
  · unfold grow
    rw [List.length_append]
    have h1 := h.len u hu
    have h2 := later_len (N := N) (o := o) (k := k) (R := R)
    show _ ≤ 18 + (bnd k + (8 - k))
    by_cases z : (u : Int) ∈ latr N o k R
    · rw [if_pos z]
      have := filter_one (P := fun _ => true) (Q := fun v => decide (v ≠ (u : Int))) (later_nd N o k R) z rfl (fun x _ => by simp)
      have e : (latr N o k R).filter (fun _ => true) = latr N o k R := List.filter_eq_self.mpr fun _ _ => rfl
      rw [e] at this
      omega
    · rw [if_neg z]
      simp; omega
  · unfold grow at hv
    rcases List.mem_append.mp hv with z | z
    · obtain ⟨m, h1, h2, h3⟩ := h.sndR i hi v z
      exact ⟨m, h1, h2, h3.mono (Nat.le_succ k)⟩
    · rw [Int.toNat_of_nonneg (ho.rng i hi).1] at z
      by_cases q : o i ∈ latr N o k R
      · rw [if_pos q] at z
        have z1 := (List.mem_filter.mp z).1
        obtain ⟨r1, _⟩ := mem_later.mp q
        obtain ⟨r2, _⟩ := mem_later.mp z1
        obtain ⟨m1, y1, y2, y3⟩ := h.sndR k hk _ r1
        obtain ⟨m2, x1, x2, x3⟩ := h.sndR k hk _ r2
        have : m1 = i := ho.inj _ _ y1 hi y2.symm
        subst this
        exact ⟨m2, x1, x2, (y3.symm.mono (Nat.le_succ k)).trans (Nat.lt_succ_self k) (x3.mono (Nat.le_succ k))⟩
      · rw [if_neg q] at z; cases z
  · by_cases z : j = k
    · subst z
      simp only [if_true] at hv
      obtain ⟨r1, _⟩ := mem_later.mp hv
      obtain ⟨m1, y1, y2, y3⟩ := h.sndR j hk _ r1
      have : m1 = m := ho.inj _ _ y1 hm y2.symm
      subst this
      exact y3
    · rw [if_neg z] at hv
      exact h.sndL j m (by omega) hm hv
end B

/-! MH: laid_by, the walk. -/
namespace B
open PySem PySem.Spec PyProof.Rows L2 DL
section
variable {i j : Nat} {s t : En → Out} {α : Type} {Γ : En}
theorem loopP (P : Res → Prop) (enc : α → D) (I : List α → En → Prop) (xs : List α) (h0 : I [] Γ)
    (hs : ∀ pre x post Γ, xs = pre ++ x :: post → I pre Γ → ∃ Γ', (s (Γ.set i (.sh (enc x))) = .nx Γ' ∨ s (Γ.set i (.sh (enc x))) = .ct Γ') ∧ I (pre ++ [x]) Γ') (hk : ∀ Γ', I xs Γ' → P (t Γ').res) : P ((loopF (bN i) s (xs.map enc) Γ).seq t).res := by
  obtain ⟨Γ', e, h⟩ := loop_all enc I xs Γ h0 hs
  rw [e]; exact hk Γ' h
theorem loopP2 (P : Res → Prop) (I : List (Int × Int) → En → Prop) (xs : List (Int × Int)) (h0 : I [] Γ)
    (hs : ∀ pre x y post Γ, xs = pre ++ (x, y) :: post → I pre Γ → ∃ Γ', (s ((Γ.set i (.sh (.int x))).set j (.sh (.int y))) = .nx Γ' ∨ s ((Γ.set i (.sh (.int x))).set j (.sh (.int y))) = .ct Γ') ∧ I (pre ++ [(x, y)]) Γ') (hk : ∀ Γ', I xs Γ' → P (t Γ').res) : P ((loopF (b2 i j) s (xs.map encP) Γ).seq t).res := by
  obtain ⟨Γ', e, h⟩ := loop_all2 I xs Γ h0 hs
  rw [e]; exact hk Γ' h
end
@[simp] theorem sHalf_ap (i : Nat) (s : En → Out) (Γ : En) : sHalf i s Γ = s (halfAt i Γ) := rfl
@[simp] theorem halfAt_0 (x : Sl) (Γ : En) : halfAt 0 (x :: Γ) = half1 x :: Γ := rfl
@[simp] theorem halfAt_s (i : Nat) (x : Sl) (Γ : En) : halfAt (i + 1) (x :: Γ) = x :: halfAt i Γ := rfl
@[simp] theorem half1_ol (ds : List D) : half1 (.ol ds) = .ol ds := rfl
@[simp] theorem half1_oll (rows : List (List D)) : half1 (.oll rows) = .ol (rows.map D.lst) := rfl
def lsetO (i : Nat) (sl : Sl) (o v : Option D) (Γ : En) : Out := match sl, o, v with
  | .ol ds, some (.int k), some d => (match ixN ds.length k with
    | some j => .nx (Γ.set i (.ol (ds.set j d)))
    | none => .bad)
  | _, _, _ => .bad
@[simp] theorem sLset_ap (i : Nat) (f g : En → Option D) (Γ : En) : sLset i f g Γ = lsetO i (gs Γ i) (f Γ) (g Γ) Γ := rfl
theorem lsetO_s {i : Nat} {ds : List D} {k : Int} {d : D} {Γ : En} (h0 : 0 ≤ k) (h1 : k < ds.length) : lsetO i (.ol ds) (some (.int k)) (some d) Γ = .nx (Γ.set i (.ol (ds.set k.toNat d))) := by
  have h := ixN_of h0 h1
  show (match ixN ds.length k with
    | some j => Out.nx (Γ.set i (.ol (ds.set j d)))
    | none => .bad) = _
  rw [h]
def idx (N : Nat) (o : Nat → Int) (v : Int) : Nat := ((ordL N o).findIdx? (· == v)).getD 0
theorem idx_o {N : Nat} {o : Nat → Int} (ho : Ord N o) {i : Nat} (hi : i < N) : (ordL N o).findIdx? (· == o i) = some i := by
  rw [List.findIdx?_eq_some_iff_getElem]
  refine ⟨by simpa [ordL] using hi, by simp [ordL], fun j hj => ?_⟩
  simp only [ordL, List.getElem_map, List.getElem_range, Bool.not_eq_true', beq_eq_false_iff_ne]
  exact fun z => by have := ho.inj j i (by omega) hi (by simpa using z); omega
def aheadOf (N : Nat) (o : Nat → Int) (L : Nat → List Int) (k : Nat) : List Int := ((bagOf o L k).filter fun v => decide ((idx N o v : Int) > k)).map fun v => (idx N o v : Int)
def parOf (N : Nat) (o : Nat → Int) (L : Nat → List Int) (k : Nat) : Nat := (minL (aheadOf N o L k ++ [(N : Int) - 1])).toNat
theorem ElS.eli {N : Nat} {es : Ties} {o : Nat → Int} {R : Nat → List Int} {L : Nat → List Int} (ho : Ord N o) (h : ElS N es o N R L) : Eli N es o L (parOf N o L) ∧ ∀ k, k + 1 < N → ((parOf N o L k : Nat) : Int) = minL (aheadOf N o L k ++ [(N : Int) - 1]) := by
  have hix : ∀ i, i < N → idx N o (o i) = i := fun i hi => by unfold idx; rw [idx_o ho hi]; rfl
  have hbag : ∀ k, k < N → ∀ v ∈ bagOf o L k, ∃ i, k ≤ i ∧ i < N ∧ v = o i ∧ (k < i → v ∈ L k) := fun k hk v hv => by
    rcases mem_bagOf.mp hv with z | z
    · obtain ⟨i, h1, h2, h3⟩ := h.later k hk v z
      exact ⟨i, by omega, h2, h3, fun _ => z⟩
    · exact ⟨k, Nat.le_refl _, hk, z, fun q => absurd q (Nat.lt_irrefl _)⟩
  have ha : ∀ k, k < N → ∀ x ∈ aheadOf N o L k, ∃ i : Nat, x = i ∧ k < i ∧ i < N ∧ o i ∈ L k := fun k hk x hx => by
    obtain ⟨v, hv, rfl⟩ := List.mem_map.mp hx
    obtain ⟨h1, h2⟩ := List.mem_filter.mp hv
    obtain ⟨i, q1, q2, rfl, q3⟩ := hbag k hk v h1
    have h2 := of_decide_eq_true h2
    rw [hix i q2] at h2 ⊢
    exact ⟨i, rfl, by omega, q2, q3 (by omega)⟩
  have ha2 : ∀ k, k < N → ∀ i, k < i → i < N → o i ∈ L k → (i : Int) ∈ aheadOf N o L k := fun k hk i h1 h2 h3 => by
    refine List.mem_map.mpr ⟨o i, List.mem_filter.mpr ⟨mem_bagOf.mpr (.inl h3), decide_eq_true ?_⟩, by rw [hix i h2]⟩
    rw [hix i h2]; omega
  have hsp : ∀ k, k + 1 < N → minL (aheadOf N o L k ++ [(N : Int) - 1]) ∈ aheadOf N o L k ++ [(N : Int) - 1] ∧ ∀ y ∈ aheadOf N o L k ++ [(N : Int) - 1], minL (aheadOf N o L k ++ [(N : Int) - 1]) ≤ y := fun k _ => minL_spec (by simp)
  have hpar : ∀ k, k + 1 < N → ((parOf N o L k : Nat) : Int) = minL (aheadOf N o L k ++ [(N : Int) - 1]) := fun k hk => by
    unfold parOf
    rw [Int.toNat_of_nonneg]
    rcases List.mem_append.mp (hsp k hk).1 with z | z
    · obtain ⟨i, e, _⟩ := ha k (by omega) _ z
      omega
    · simp at z; omega
  refine ⟨⟨ho.inj, ho.rng, h.later, h.ndL, fun i j hij hj a => h.tie i j (by omega) hij hj a, fun k i j hk hij hj h1 h2 => h.fill k i j hk (by omega) hij hj h1 h2, fun k hk => ?_, fun k hk i hi hv => ?_, fun k hk hne => ?_⟩, hpar⟩
  · have hp := hpar k hk
    rcases List.mem_append.mp (hsp k hk).1 with z | z
    · obtain ⟨i, e, h1, h2, _⟩ := ha k (by omega) _ z
      omega
    · simp at z; omega
  · have hp := hpar k hk
    obtain ⟨i2, h1, h2, h3⟩ := h.later k (by omega) _ hv
    have e := ho.inj i i2 hi h2 h3
    have := (hsp k hk).2 i (List.mem_append_left _ (ha2 k (by omega) i (by omega) hi hv))
    omega
  · have hp := hpar k hk
    obtain ⟨v, hv⟩ := List.exists_mem_of_ne_nil _ hne
    obtain ⟨i, h1, h2, rfl⟩ := h.later k (by omega) v hv
    have hmi := (hsp k hk).2 i (List.mem_append_left _ (ha2 k (by omega) i h1 h2 hv))
    rcases List.mem_append.mp (hsp k hk).1 with z | z
    · obtain ⟨i2, e, q1, q2, q3⟩ := ha k (by omega) _ z
      have : parOf N o L k = i2 := by omega
      rw [this]; exact q3
    · simp at z
      have : parOf N o L k = i := by omega
      rw [this]; exact hv
end B

/-! MH2: laid_by, the walk. -/
namespace B
open PySem PySem.Spec PyProof.Rows L2 DL
def lkPre (N : Nat) (o : Nat → Int) (L : Nat → List Int) (k : Nat) : Ties := (List.range k).map fun (k : Nat) => ((k : Int), (parOf N o L k : Int))
theorem lkPre_succ (N : Nat) (o : Nat → Int) (L : Nat → List Int) (k : Nat) : lkPre N o L (k + 1) = lkPre N o L k ++ [((k : Int), (parOf N o L k : Int))] := by
  unfold lkPre; rw [List.range_succ, List.map_append]; rfl
theorem laid_ex2 {n : Int} {es : Ties} {o : Nat → Int} (h : Web n es) (hl : es.length ≤ 18) (ho : Ord n.toNat o) : ∃ L par, Eli n.toNat es o L par ∧ (∀ j m, j < n.toNat → m < n.toNat → o m ∈ L j → Pth es o n.toNat j j m) ∧ g_law_laid_by [.int n, encT es, encI (ordL n.toNat o)] = .ok (.tup [encR (bagsOf n.toNat o L), encT (linksOf n.toNat par)]) := by
  unfold g_law_laid_by
  simp only [runD_eq]; unfold m_law_laid_by
  have hlo := h.lo
  have hhi := h.hi
  have e1 : 0 ≤ n ∧ n ≤ 1000 := by omega
  obtain ⟨N, hN⟩ : ∃ N, N = n.toNat := ⟨_, rfl⟩
  have hNn : (N : Int) = n := by omega
  rw [← hN] at ho ⊢
  simp [List.replicate, e1]
  rw [← hN]
  have hrep : List.replicate N [] = (List.range N).map fun (v : Nat) => (nbs [] v).map D.int := by
    refine List.ext_getElem? fun i => ?_
    by_cases hi : i < N
    · simp [hi, nbs]
    · simp [hi]
  rw [hrep]
  refine loopP2 (fun r => ∃ L par, Eli N es o L par ∧ (∀ j m, j < N → m < N → o m ∈ L j → Pth es o N j j m) ∧ r = .ok (.tup [encR (bagsOf N o L), encT (linksOf N par)])) (fun pre Γ => ∃ x5 x6, Γ = [.sh (.int n), .sh (encT es), .sh (encI (ordL N o)), .oll ((List.range N).map fun (v : Nat) => (nbs pre v).map D.int), .no, x5, x6, .no, .no, .no, .no, .no]) es ⟨_, _, rfl⟩ ?_ ?_
  · rintro pre x y post Γ hp ⟨x5, x6, rfl⟩
    obtain ⟨h1, h2, h3⟩ : 0 ≤ x ∧ x < y ∧ y < n := h.ok (x, y) (by rw [hp]; simp)
    obtain ⟨a, rfl⟩ : ∃ a : Nat, x = a := ⟨x.toNat, by omega⟩
    obtain ⟨b, rfl⟩ : ∃ b : Nat, y = b := ⟨y.toNat, by omega⟩
    have hla : a < N := by omega
    have hlb : b < N := by omega
    have hab : a ≠ b := by omega
    have hpre : pre.length ≤ es.length := by
      have := congrArg List.length hp
      simp at this; omega
    have hn : ∀ v, (nbs pre v).length < 1000000 := fun v => by have := nbs_len pre v; omega
    simp only [sSeq_ap, sRowApp_ap, eVar_ap, gs_s, gs_0, gv_s, gv_0, List.set_cons_succ, List.set_cons_zero]
    rw [rowO_eq hla (by simp [hn])]
    simp only [seq_nx, sRowApp_ap, eVar_ap, List.set_cons_succ, List.set_cons_zero, gs_s, gs_0, gv_s, gv_0]
    rw [rowO_eq hlb (by rw [if_neg hab.symm]; simp [hn])]
    refine ⟨_, .inl rfl, .sh (.int a), .sh (.int b), ?_⟩
    simp only [List.set_cons_succ, List.set_cons_zero]
    congr 5
    refine List.map_congr_left fun v hv => ?_
    rw [nbs_snoc]
    by_cases h4 : v = a
    · subst h4; simp [hab]; omega
    · by_cases h5 : v = b
      · subst h5; simp [h4]; omega
      · simp [h4, h5]; omega
  rintro Γ ⟨x5, x6, rfl⟩
  have hn2 : n ≤ 1000000 ∧ -1000000 ≤ n := by omega
  simp [hn2, rng_pts]
  have hst := ElS.start (o := o) ho (fun p hp => by rw [hNn]; exact h.ok p hp) hl
  refine loopP (fun r => ∃ L par, Eli N es o L par ∧ (∀ j m, j < N → m < N → o m ∈ L j → Pth es o N j j m) ∧ r = .ok (.tup [encR (bagsOf N o L), encT (linksOf N par)])) D.int (fun pre Γ => ∃ R L sl x4 x5 x6 x8 x9, ElS N es o pre.length R L ∧ half1 sl = .ol ((List.range N).map fun u => encI (R u)) ∧ Γ = [.sh (.int n), .sh (encT es), .sh (encI (ordL N o)), sl, x4, x5, x6, .ol ((List.range pre.length).map fun j => encI (bagOf o L j)), x8, x9, .no, .no]) (ptsOf n) ⟨_, _, _, _, _, _, _, _, hst, by simp, rfl⟩ ?_ ?_
  · rintro pre x post Γ hp ⟨R, L, sl, x4, x5, x6, x8, x9, hE, hsl, rfl⟩
    obtain ⟨rfl, hk⟩ := pts_split hp
    obtain ⟨k, ek⟩ : ∃ k, k = pre.length := ⟨_, rfl⟩
    rw [← ek, ← hN] at hk
    rw [← ek] at hE ⊢
    have hnx := hE.next ho (by omega) hk
    have hok := ho.rng k hk
    have hat : atI ((ordL N o).map D.int) (k : Int) = some (.int (o k)) := atI_nat (by rw [List.getElem?_map]; unfold ordL; rw [List.getElem?_map, List.getElem?_range hk]; rfl)
    have hrow : ∀ F : Nat → List Int, ∀ v : Int, 0 ≤ v → v < N → atI ((List.range N).map fun u => encI (F u)) v = some (encI (F v.toNat)) := fun F v h0 h1 => by
      obtain ⟨u, rfl⟩ : ∃ u : Nat, v = u := ⟨v.toNat, by omega⟩
      exact atI_nat (by rw [List.getElem?_map, List.getElem?_range (by omega)]; rfl)
    have hr1 := hrow R (o k) hok.1 hok.2
    have hlen := hE.len (o k).toNat (by omega)
    have hb36 := bnd_le k (by omega)
    have hl1 : (R (o k).toNat).length ≤ 1000000 := by omega
    have hcut : DL.cutD (ordL N o) (some ((k : Int) + 1)) none = (ordL N o).drop (k + 1) := by
      have : ((k : Int) + 1) = ((k + 1 : Nat) : Int) := by omega
      have hol : (ordL N o).length = N := by simp [ordL]
      rw [this]; unfold DL.cutD; rw [HT.sIx_nat, HT.sIx_none]
      rw [List.take_of_length_le (by simp), Nat.min_eq_left (by omega)]
    obtain ⟨dr, hdr⟩ : ∃ dr, dr = (ordL N o).drop (k + 1) := ⟨_, rfl⟩
    obtain ⟨lt, hlt⟩ : ∃ lt, lt = latr N o k R := ⟨_, rfl⟩
    have hcf := compF_fil (i := 6) (c := tst (eOp dIn (eVar 6) (eL (fSl (eVar 2) (oE (eOp dAdd (eVar 8) (eC (.int 1)))) oNo)))) (f := eVar 6) (Γ := [.sh (.int n), .sh (encT es), .sh (encI (ordL N o)), .ol ((List.range N).map fun u => encI (R u)), .sh (.int (o k)), x5, .no, .ol ((List.range k).map fun j => encI (bagOf o L j)), .sh (.int k), x9, .no, .no]) D.int (fun v => decide (v ∈ dr)) (R (o k).toNat) (fun v _ => by
      simp [cutD_map, hcut, ← hdr, -List.map_drop]) (fun v _ => by simp)
    have hss : dSortedSet (.lst (((R (o k).toNat).filter fun v => decide (v ∈ dr)).map D.int)) = some (lt.map D.int) := by
      have : ((R (o k).toNat).filter fun v => decide (v ∈ dr)).length < 64 := by
        have := List.length_filter_le (fun v => decide (v ∈ dr)) (R (o k).toNat)
        omega
      simp only [dSortedSet, asInts_ints]
      rw [if_pos this, hlt, hdr]
      rfl
    have hltl := later_len (N := N) (o := o) (k := k) (R := R)
    rw [← hlt] at hltl
    have hl2 : lt.length + 1 ≤ 1000000 := by omega
    have hl5 : lt.length ≤ 1000000 := by omega
    have hds : dSorted [.lst (lt.map D.int ++ [.int (o k)])] = some ((srt (lt ++ [o k])).map D.int) := by
      have := dSorted_i (lt ++ [o k])
      rw [List.map_append] at this
      exact this
    have hkl : k < 1000000 := by omega
    simp [hat, hsl, hr1, hl1, hcf, hss, hl2, hds, hkl]
    have hbm : (List.range k).map (fun j => encI (bagOf o L j)) ++ [D.lst ((srt (lt ++ [o k])).map D.int)] = (List.range (k + 1)).map fun j => encI (bagOf o (fun j => if j = k then lt else L j) j) := by
      rw [List.range_succ, List.map_append]
      congr 1
      · refine List.map_congr_left fun j hj => ?_
        have := List.mem_range.mp hj
        show encI (srt (L j ++ [o j])) = encI (srt ((if j = k then lt else L j) ++ [o j]))
        rw [if_neg (by omega)]
      · simp [bagOf]
    rw [hbm]
    refine loopX0 D.int (fun pre2 Γ => ∃ x5, Γ = [.sh (.int n), .sh (encT es), .sh (encI (ordL N o)), .ol ((List.range N).map fun u => encI (grow lt pre2 R u)), .sh (.int (o k)), x5, x6, .ol ((List.range (k + 1)).map fun j => encI (bagOf o (fun j => if j = k then lt else L j) j)), .sh (.int k), .sh (encI lt), .no, .no]) lt ⟨x5, by simp [grow]⟩ ?_ ?_
    · rintro pre2 v post2 Γ hp2 ⟨x5, rfl⟩
      have hv : v ∈ lt := by rw [hp2]; simp
      have hv2 : 0 ≤ v ∧ v < N := by
        rw [hlt] at hv
        obtain ⟨_, i, _, hi, e⟩ := mem_later.mp hv
        rw [e]; exact ho.rng i hi
      have hnd : v ∉ pre2 := by
        have nd := later_nd N o k R
        rw [← hlt, hp2] at nd
        exact fun z => (List.nodup_append.mp nd).2.2 v z v (by simp) rfl
      have hg := hrow (grow lt pre2 R) v hv2.1 hv2.2
      have hgv : grow lt pre2 R v.toNat = R v.toNat := by
        unfold grow
        rw [Int.toNat_of_nonneg hv2.1, if_neg hnd, List.append_nil]
      rw [hgv] at hg
      have hcf2 := compF_fil (i := 6) (c := tst (eOp dNe (eVar 6) (eVar 5))) (f := eVar 6) (Γ := [.sh (.int n), .sh (encT es), .sh (encI (ordL N o)), .ol ((List.range N).map fun u => encI (grow lt pre2 R u)), .sh (.int (o k)), .sh (.int v), .no, .ol ((List.range (k + 1)).map fun j => encI (bagOf o (fun j => if j = k then lt else L j) j)), .sh (.int k), .sh (encI lt), .no, .no]) D.int (fun w => decide (w ≠ v)) lt (fun w _ => by simp) (fun w _ => by simp)
      have hRl := hE.len v.toNat (by omega)
      have hfl := List.length_filter_le (fun w => decide (w ≠ v)) lt
      have hl3 : (R v.toNat).length + (lt.filter fun w => decide (w ≠ v)).length ≤ 1000000 := by omega
      have hset := lsetO_s (i := 3) (ds := (List.range N).map fun u => encI (grow lt pre2 R u)) (k := v) (d := .lst ((R v.toNat).map D.int ++ (lt.filter fun w => decide (w ≠ v)).map D.int)) (Γ := [.sh (.int n), .sh (encT es), .sh (encI (ordL N o)), .ol ((List.range N).map fun u => encI (grow lt pre2 R u)), .sh (.int (o k)), .sh (.int v), x6, .ol ((List.range (k + 1)).map fun j => encI (bagOf o (fun j => if j = k then lt else L j) j)), .sh (.int k), .sh (encI lt), .no, .no]) hv2.1 (by simpa using hv2.2)
      simp only [ne_eq, decide_not] at hcf2 hl3 hset
      simp [hg, hl5, hcf2, hl3, hset]
      rw [range_set]
      refine List.map_congr_left fun u hu => ?_
      by_cases z : u = v.toNat
      · subst z
        rw [if_pos rfl]
        unfold grow
        rw [Int.toNat_of_nonneg hv2.1]
        simp
      · rw [if_neg z]
        unfold grow
        have : ¬ (u : Int) = v := by omega
        simp [this]
    · rintro Γ ⟨x5, rfl⟩
      rw [← hlt] at hnx
      rw [← ek]
      exact ⟨_, _, hnx, _, rfl, _, _, _, _, _, rfl⟩
  · rintro Γ ⟨R, L, sl, x4, x5, x6, x8, x9, hE, hsl, rfl⟩
    have hpn : (ptsOf n).length = N := by simp [ptsOf, hN]
    rw [hpn] at hE ⊢
    obtain ⟨hEli, hpar⟩ := hE.eli ho
    refine ⟨L, parOf N o L, hEli, fun j m hj hm hv => hE.sndL j m hj hm hv, ?_⟩
    have hn3 : n - 1 ≤ 1000000 ∧ -1000000 ≤ n - 1 := by omega
    have hrg : rng 0 (n.toNat - 1) = (ptsOf (n - 1)).map D.int := by
      have := rng_pts (n - 1)
      rw [← this]; congr 1; omega
    have hbm : (List.range N).map (fun j => encI (bagOf o L j)) = (bagsOf N o L).map encI := by
      unfold bagsOf; rw [List.map_map]; rfl
    rw [hbm]
    simp [hn3, hrg]
    refine loopR D.int (fun pre Γ => ∃ x8 x11, Γ = [.sh (.int n), .sh (encT es), .sh (encI (ordL N o)), sl, x4, x5, x6, .ol ((bagsOf N o L).map encI), x8, x9, .ol ((lkPre N o L pre.length).map encP), x11]) (ptsOf (n - 1)) ⟨_, _, rfl⟩ ?_ ?_
    · rintro pre x post Γ hp ⟨x8, x11, rfl⟩
      obtain ⟨rfl, hk⟩ := pts_split hp
      obtain ⟨k, ek⟩ : ∃ k, k = pre.length := ⟨_, rfl⟩
      rw [← ek] at hk ⊢
      have hkN : k + 1 < N := by omega
      have hbat : atI ((bagsOf N o L).map encI) (k : Int) = some (encI (bagOf o L k)) := atI_nat (by rw [List.getElem?_map]; unfold bagsOf; rw [List.getElem?_map, List.getElem?_range (by omega)]; rfl)
      have hbin : ∀ v ∈ bagOf o L k, ∃ i, i < N ∧ v = o i := fun v hv => by
        rcases mem_bagOf.mp hv with z | z
        · obtain ⟨i, h1, h2, h3⟩ := hE.later k (by omega) v z
          exact ⟨i, h2, h3⟩
        · exact ⟨k, by omega, z⟩
      have hidx : ∀ v ∈ bagOf o L k, (idxI (ordL N o) v).map (fun j => D.int (j : Nat)) = some (.int (idx N o v)) := fun v hv => by
        obtain ⟨i, hi, rfl⟩ := hbin v hv
        have := idx_o ho hi
        unfold idxI idx
        rw [this]; rfl
      have hcm := compF_map (i := 6) (c := tst (eOp dGt (eIndex (eVar 2) (eVar 6)) (eVar 8))) (f := eIndex (eVar 2) (eVar 6)) [.sh (.int n), .sh (encT es), .sh (encI (ordL N o)), sl, x4, x5, .no, .ol ((bagsOf N o L).map encI), .sh (.int k), x9, .ol ((lkPre N o L k).map encP), x11] D.int D.int (fun v => decide ((idx N o v : Int) > k)) (fun v => (idx N o v : Int)) (bagOf o L k) (fun v hv => by
        have := hidx v hv
        simp [eIndex, asInts_ints, this]) (fun v hv _ => by
        have := hidx v hv
        simp [eIndex, asInts_ints, this])
      have hbl : (bagOf o L k).length ≤ N := by
        have h1 := hEli.bagI (show k < N by omega)
        have h2 := nodup_sub_len (ys := ptsOf N) ((bagI_inc h1).imp fun q => by omega) fun x hx => mem_ptsOf.mpr (bagI_rng h1 x hx)
        simpa [ptsOf] using h2
      have hbl2 : (bagOf o L k).length ≤ 1000000 := by omega
      have hal : (aheadOf N o L k).length ≤ N := by
        unfold aheadOf
        rw [List.length_map]
        have := List.length_filter_le (fun v => decide ((idx N o v : Int) > k)) (bagOf o L k)
        omega
      have hal2 : (aheadOf N o L k).length + 1 ≤ 1000000 := by omega
      have hcm2 : ((bagOf o L k).filter fun v => decide ((idx N o v : Int) > k)).map (fun v => (idx N o v : Int)) = aheadOf N o L k := rfl
      rw [hcm2] at hcm
      have hmin : dMinL [.lst ((aheadOf N o L k).map D.int ++ [.int (n - 1)])] = some (.int (parOf N o L k)) := by
        have := dMinL_i (aheadOf N o L k ++ [n - 1])
        rw [if_neg (by simp), List.map_append] at this
        rw [hpar k hkN, hNn]
        exact this
      have hkl : (lkPre N o L k).length < 1000000 := by simp [lkPre]; omega
      have hsc : (pre ++ [(k : Int)]).length = k + 1 := by simp [ek]
      rw [hsc, lkPre_succ]
      simp [hbat, hbl2, hcm, hal2, hmin, hkl]
      simp [encP]
    · rintro Γ ⟨x8, x11, rfl⟩
      have hpl : (ptsOf (n - 1)).length = N - 1 := by simp [ptsOf]; omega
      rw [hpl]
      simp
      rfl
theorem laid_ex {n : Int} {es : Ties} {o : Nat → Int} (h : Web n es) (hl : es.length ≤ 18) (ho : Ord n.toNat o) : ∃ L par, Eli n.toNat es o L par ∧ g_law_laid_by [.int n, encT es, encI (ordL n.toNat o)] = .ok (.tup [encR (bagsOf n.toNat o L), encT (linksOf n.toNat par)]) := by
  obtain ⟨L, par, h1, _, h3⟩ := laid_ex2 h hl ho
  exact ⟨L, par, h1, h3⟩
end B

/-! NA: around, without. -/
namespace B
open PySem PySem.Spec PyProof.Rows L2 DL
def arnd (n : Int) (es : Ties) (S : List Int) : List Int := (ptsOf n).filter fun v => !decide (v ∈ S) && S.any fun p => decide (Adj es p v)
theorem mem_arnd {n : Int} {es : Ties} {S : List Int} (h : Web n es) {v : Int} : v ∈ arnd n es S ↔ v ∉ S ∧ ∃ p ∈ S, Adj es p v := by
  unfold arnd
  rw [List.mem_filter, Bool.and_eq_true, Bool.not_eq_true', decide_eq_false_iff_not, List.any_eq_true, mem_ptsOf]
  constructor
  · rintro ⟨_, h1, p, hp, a⟩; exact ⟨h1, p, hp, of_decide_eq_true a⟩
  · rintro ⟨h1, p, hp, a⟩
    refine ⟨?_, h1, p, hp, decide_eq_true a⟩
    rcases a with a | a
    · have : 0 ≤ p ∧ p < v ∧ v < n := h.ok _ a; omega
    · have : 0 ≤ v ∧ v < p ∧ p < n := h.ok _ a; omega
theorem arnd_inc (n : Int) (es : Ties) (S : List Int) : (arnd n es S).Pairwise (· < ·) := (pts_ris n).inc.filter _
theorem arnd_len {n : Int} {es : Ties} {S : List Int} (h : Web n es) : (arnd n es S).length ≤ 10 := by
  unfold arnd
  have h1 := List.length_filter_le (fun v => !decide (v ∈ S) && S.any fun p => decide (Adj es p v)) (ptsOf n)
  have h2 := (pts_all n).len
  have := h.hi
  omega
theorem pt_setD_in {ks : List Int} {k : Int} (h : k ∈ ks) : pt (setD ks) k (.bl true) = setD ks := by
  unfold pt
  rw [lk_setD, if_pos h]
  simp only [Option.isSome_some, if_true]
  unfold setD
  rw [List.map_map]
  refine List.map_congr_left fun x _ => ?_
  simp only [Function.comp_apply]
  split <;> rfl
theorem g_around_eq {n : Int} {es : Ties} {S : List Int} (h : Web n es) (hS : Pts n S) : g_around [encR (near n es), encI S] = .ok (encI (arnd n es S)) := by
  unfold g_around; rw [runD_eq]; unfold m_around
  simp [List.replicate]
  refine loopR D.int (fun pre Γ => ∃ ks x3 x4, ks.Nodup ∧ (∀ k, k ∈ ks ↔ k ∉ S ∧ ∃ p ∈ pre, Adj es p k) ∧ Γ = [.sh (encR (near n es)), .sh (encI S), .ok (setD ks), x3, x4]) S ⟨[], _, _, by simp, by simp, rfl⟩ ?_ ?_
  · rintro pre p post Γ hp ⟨ks, x3, x4, nd, hk, rfl⟩
    have hpS : p ∈ S := by rw [hp]; simp
    obtain ⟨p0, p1⟩ := hS.ok p hpS
    have hat : atI ((near n es).map encI) p = some (encI (nb es p)) := by
      obtain ⟨k, rfl⟩ : ∃ k : Nat, p = k := ⟨p.toNat, by omega⟩
      have := near_get h p0 p1
      exact atI_nat (by rw [List.getElem?_map]; simp at this; rw [this]; rfl)
    simp [hat]
    have hpts : ∀ k, k ∈ ks → k ∈ ptsOf n := fun k hkk => by
      obtain ⟨h1, q, hq, a⟩ := (hk k).mp hkk
      have := (mem_arnd (S := S) h).mpr ⟨h1, q, by rw [hp]; simp [hq], a⟩
      unfold arnd at this
      exact (List.mem_filter.mp this).1
    refine loopX0 D.int (fun pre2 Γ => ∃ ks x4, ks.Nodup ∧ (∀ k, k ∈ ks ↔ k ∉ S ∧ ((∃ p ∈ pre, Adj es p k) ∨ k ∈ pre2)) ∧ Γ = [.sh (encR (near n es)), .sh (encI S), .ok (setD ks), .sh (.int p), x4]) (nb es p) ⟨ks, x4, nd, fun k => by rw [hk]; simp, rfl⟩ ?_ ?_
    · rintro pre2 v post2 Γ hp2 ⟨ks, x4, nd, hk, rfl⟩
      have hv : Adj es p v := mem_nb.mp (by rw [hp2]; simp)
      have hsub : ∀ k ∈ ks, k ∈ ptsOf n := fun k hkk => by
        obtain ⟨h1, q⟩ := (hk k).mp hkk
        have : ∃ q ∈ S, Adj es q k := by
          rcases q with ⟨q, hq, a⟩ | q
          · exact ⟨q, by rw [hp]; simp [hq], a⟩
          · exact ⟨p, hpS, mem_nb.mp (by rw [hp2]; simp [q])⟩
        have := (mem_arnd (S := S) h).mpr ⟨h1, this⟩
        unfold arnd at this
        exact (List.mem_filter.mp this).1
      have hl : (setD ks).length < 1000000 := by
        rw [setD_len]
        have := nodup_sub_len nd hsub
        have := (pts_all n).len
        have := h.hi
        omega
      by_cases hvS : v ∈ S
      · simp [hvS]
        refine ⟨ks, nd, fun k => ?_, rfl⟩
        rw [hk]
        by_cases e : k = v
        · subst e; simp [hvS]
        · simp [e]
      · by_cases hvk : v ∈ ks
        · simp [hvS, hl, pt_setD_in hvk]
          refine ⟨ks, nd, fun k => ?_, rfl⟩
          by_cases e : k = v
          · subst e; simp [hvk, hvS]
          · rw [hk]; simp [e]
        · simp [hvS, hl, pt_setD hvk]
          refine ⟨ks ++ [v], List.nodup_append.mpr ⟨nd, by simp, fun x hx y hy z => ?_⟩, fun k => ?_, rfl⟩
          · simp at hy; subst hy z; exact hvk hx
          · rw [List.mem_append, hk]
            by_cases e : k = v
            · subst e; simp [hvS]
            · simp [e]
    · rintro Γ ⟨ks, x4, nd, hk, rfl⟩
      refine ⟨ks, nd, fun k => ?_, _, _, rfl⟩
      rw [hk, mem_nb]
  · rintro Γ ⟨ks, x3, x4, nd, hk, rfl⟩
    have hm : ∀ x, x ∈ srt ks ↔ x ∈ arnd n es S := fun x => by rw [mem_srt, hk, mem_arnd h]
    have e : srt ks = arnd n es S := sorted_eq (srt_sorted ks) ((arnd_inc n es S).imp fun q => by omega) (srt_nodup nd) ((arnd_inc n es S).imp fun q => by omega) hm
    have hkl : ks.length < 64 := by
      have h1 := (srt_perm ks).length_eq
      rw [e] at h1
      have := arnd_len (S := S) h
      omega
    have hfs : fSortedK 2 [.sh (encR (near n es)), .sh (encI S), .ok (setD ks), x3, x4] = some ((arnd n es S).map D.int) := by
      show (if (setD ks).length < 64 then some ((srt ((setD ks).map (·.1))).map D.int) else none) = _
      have : (setD ks).map (·.1) = ks := by unfold setD; rw [List.map_map]; exact (List.map_congr_left fun x _ => rfl).trans (List.map_id ks)
      rw [setD_len, if_pos hkl, this, e]
    simp [hfs]
theorem g_without_eq {S : List Int} {p : Int} (hl : S.length ≤ 1000) : g_without [encI S, .int p] = .ok (encI (S.filter fun x => !decide (x = p))) := by
  unfold g_without; rw [runD_eq]; unfold m_without
  have hl2 : S.length ≤ 1000000 := by omega
  have hc := compF_fil (i := 2) (c := tst (eOp dNe (eVar 2) (eVar 1))) (f := eVar 2) (Γ := [.sh (encI S), .sh (.int p), .no]) D.int (fun x => !decide (x = p)) S (fun x _ => by simp) (fun x _ => rfl)
  simp [List.replicate, hl2, hc]
end B

/-! NB: what is known; plain. -/
namespace B
open PySem PySem.Spec PyProof.Rows L2 DL
def wo (S : List Int) (p : Int) : List Int := S.filter fun x => !decide (x = p)
/-- a part that can be laid in bags of at most w -/
inductive Lay (n : Int) (es : Ties) (w : Int) : List Int → Prop
  | mk {S : List Int} (p : Int) : ((arnd n es S).length : Int) < w → p ∈ S → (∀ C, C ∈ comps es (wo S p) → Lay n es w C) → Lay n es w S
/-- a part whose laying is known -/
inductive Fin (n : Int) (es : Ties) (w : Int) (kvs : Kv) : List Int → Prop
  | mk {S : List Int} (p : Int) : lk kvs S = some (.int p) → p ∈ S → ((arnd n es S).length : Int) < w → (∀ C, C ∈ comps es (wo S p) → Fin n es w kvs C) → Fin n es w kvs S
section
variable {n : Int} {es : Ties} {w : Int}
theorem Fin.lay {kvs : Kv} {S : List Int} (h : Fin n es w kvs S) : Lay n es w S := by
  induction h with
  | mk p _ h2 h3 _ ih => exact .mk p h3 h2 ih
theorem Fin.mono {kvs kvs' : Kv} {S : List Int} (m : ∀ K q, lk kvs K = some (.int q) → lk kvs' K = some (.int q)) (h : Fin n es w kvs S) : Fin n es w kvs' S := by
  induction h with
  | mk p h1 h2 h3 _ ih => exact .mk p (m _ _ h1) h2 h3 ih
def Val (n : Int) (es : Ties) (w : Int) (kvs : Kv) (K : List Int) (d : D) : Prop := (d = .non ∧ ¬ Lay n es w K) ∨ ((∃ p, d = .int p) ∧ Fin n es w kvs K)
theorem Val.mono {kvs kvs' : Kv} {K : List Int} {d : D} (m : ∀ K q, lk kvs K = some (.int q) → lk kvs' K = some (.int q)) (h : Val n es w kvs K d) : Val n es w kvs' K d := h.imp id fun ⟨a, b⟩ => ⟨a, b.mono m⟩
def Good (n : Int) (es : Ties) (w : Int) (kvs : Kv) (m : Nat) : Prop := ∀ K d, lk kvs K = some d → K.length ≤ m → Val n es w kvs K d
structure Ky (n : Int) (kvs : Kv) : Prop where
  nd : (kvs.map (·.1)).Nodup
  ris : ∀ K ∈ kvs.map (·.1), Ris n K
theorem Ky.len {kvs : Kv} (h0 : 1 ≤ n) (h1 : n ≤ 10) (h : Ky n kvs) : kvs.length ≤ 1024 := by
  have e : ((n.toNat : Nat) : Int) = n := by omega
  have := nodup_sub_len (ys := lchs n.toNat) h.nd fun K hK => mem_lchs.mpr (by rw [e]; exact h.ris K hK)
  rw [lchs_len, List.length_map] at this
  have h2 : 2 ^ n.toNat ≤ 2 ^ 10 := Nat.pow_le_pow_right (by decide) (by omega)
  omega
theorem Ky.put {kvs : Kv} (h : Ky n kvs) {S : List Int} (hS : Ris n S) (d : D) : Ky n (pt kvs S d) := by
  have e := pt_keys kvs S d
  by_cases q : (lk kvs S).isSome = true
  · rw [if_pos q] at e
    exact ⟨by rw [e]; exact h.nd, by rw [e]; exact h.ris⟩
  · rw [if_neg q] at e
    have hn : S ∉ kvs.map (·.1) := fun z => q ((lk_some_key kvs S).mpr z)
    refine ⟨?_, ?_⟩
    · rw [e]
      refine List.nodup_append.mpr ⟨h.nd, by simp, fun x hx y hy z => ?_⟩
      simp at hy; subst hy z; exact hn hx
    · rw [e]
      intro K hK
      rcases List.mem_append.mp hK with z | z
      · exact h.ris K z
      · simp at z; rw [z]; exact hS
structure Stp (n : Int) (es : Ties) (w : Int) (kvs kvs' : Kv) (m : Nat) : Prop where
  old : ∀ K d, lk kvs K = some d → lk kvs' K = some d
  new : ∀ K d, lk kvs K = none → lk kvs' K = some d → K.length ≤ m ∧ Val n es w kvs' K d
  ky : Ky n kvs'
theorem Stp.refl {kvs : Kv} (h : Ky n kvs) (m : Nat) : Stp n es w kvs kvs m := ⟨fun _ _ h => h, fun K d a b => (by rw [a] at b; cases b), h⟩
theorem Stp.trans {k1 k2 k3 : Kv} {m : Nat} (a : Stp n es w k1 k2 m) (b : Stp n es w k2 k3 m) : Stp n es w k1 k3 m := by
  refine ⟨fun K d h => b.old K d (a.old K d h), fun K d h1 h2 => ?_, b.ky⟩
  cases e : lk k2 K with
  | none => exact b.new K d e h2
  | some d' =>
    have := b.old K d' e
    rw [this] at h2
    cases h2
    obtain ⟨q1, q2⟩ := a.new K _ h1 e
    exact ⟨q1, q2.mono fun K q hq => b.old K _ hq⟩
theorem Stp.good {k1 k2 : Kv} {m : Nat} (a : Stp n es w k1 k2 m) (g : Good n es w k1 m) : Good n es w k2 m := fun K d h hl => by
  cases e : lk k1 K with
  | none => exact (a.new K d e h).2
  | some d' =>
    have := a.old K d' e
    rw [this] at h
    cases h
    exact (g K _ e hl).mono fun K q hq => a.old K _ hq
def encO : Option Int → D
  | none => .non
  | some p => .int p
theorem eqv_O (a b : Option Int) : eqv (encO a) (encO b) = decide (a = b) := by
  cases a with
  | none => cases b with
    | none => rfl
    | some q => rfl
  | some p => cases b with
    | none => rfl
    | some q =>
      show eqv (.int p) (.int q) = _
      rw [eqv_ii, decide_eq_decide]; simp
theorem okN_O (n : Nat) (a : Option Int) : okN n (encO a) = true := by cases a <;> simp [encO]
theorem dIn_O (xs : List (Option Int)) : dIn .non (.lst (xs.map encO)) = some (.bl (decide (none ∈ xs))) := by
  rw [show (D.non) = encO none from rfl, dIn_enc encO eqv_O (okN_O 8) none xs]; congr
theorem dNotIn_O (xs : List (Option Int)) : dNotIn .non (.lst (xs.map encO)) = some (.bl (!decide (none ∈ xs))) := by
  rw [show (D.non) = encO none from rfl, dNotIn_enc encO eqv_O (okN_O 8) none xs]; congr
theorem Val.O {kvs : Kv} {K : List Int} {d : D} (h : Val n es w kvs K d) : ∃ o, d = encO o := by
  rcases h with ⟨e, _⟩ | ⟨⟨p, e⟩, _⟩
  · exact ⟨none, e⟩
  · exact ⟨some p, e⟩
theorem Val.iff {kvs : Kv} {K : List Int} {o : Option Int} (h : Val n es w kvs K (encO o)) : (o = none ↔ ¬ Lay n es w K) ∧ (o ≠ none → Fin n es w kvs K) := by
  rcases h with ⟨e, k⟩ | ⟨⟨p, e⟩, k⟩
  · cases o with
    | none => exact ⟨⟨fun _ => k, fun _ => rfl⟩, fun z => absurd rfl z⟩
    | some q => cases e
  · cases o with
    | none => cases e
    | some q => exact ⟨⟨fun z => (by cases z), fun z => absurd k.lay z⟩, fun _ => k⟩
end
theorem look_tS (kvs : Kv) (S : List Int) : dLook (.ot kvs) (.tup (S.map D.int)) = some (lk kvs S) := by
  show (asInts (S.map D.int)).map (fun k => lk kvs k) = _
  rw [asInts_ints]; rfl
theorem ris_pts {n : Int} {S : List Int} (h : Ris n S) : Pts n S := ⟨h.inc.imp fun q => by omega, h.ok⟩
/-- the pieces of a part less a point -/
theorem comps_wo {n : Int} {es : Ties} {S : List Int} {p : Int} (h : Ris n S) (hp : p ∈ S) : ∀ C ∈ comps es (wo S p), C ≠ [] ∧ C.length + 1 ≤ S.length ∧ Ris n C ∧ ∀ x ∈ C, x ∈ wo S p := fun C hC => by
  classical
  unfold comps at hC
  obtain ⟨q, hq, rfl⟩ := List.mem_map.mp hC
  obtain ⟨hq1, hq2⟩ := List.mem_filter.mp hq
  have hwl : (wo S p).length + 1 ≤ S.length := by
    unfold wo
    have := filter_one (P := fun _ => true) (Q := fun x => !decide (x = p)) (ris_pts h).nd hp rfl (fun x _ => by simp)
    have e : S.filter (fun _ => true) = S := List.filter_eq_self.mpr fun _ _ => rfl
    rw [e] at this
    omega
  have hwi : (wo S p).Pairwise (· < ·) := h.inc.filter _
  have hsrt : srt (wo S p) = wo S p := sorted_eq (srt_sorted _) (hwi.imp fun q => by omega) (srt_nodup (hwi.imp fun q => by omega)) (hwi.imp fun q => by omega) fun x => mem_srt
  rw [hsrt] at hq1 ⊢
  have hsub : ∀ x ∈ (wo S p).filter (fun q' => decide (Con es (wo S p) q q')), x ∈ wo S p := fun x hx => (List.mem_filter.mp hx).1
  refine ⟨fun z => ?_, ?_, ⟨hwi.filter _, fun x hx => ?_⟩, hsub⟩
  · have : q ∈ (wo S p).filter (fun q' => decide (Con es (wo S p) q q')) := List.mem_filter.mpr ⟨hq1, decide_eq_true (.refl hq1)⟩
    rw [z] at this; cases this
  · have := List.length_filter_le (fun q' => decide (Con es (wo S p) q q')) (wo S p)
    omega
  · exact h.ok x (List.mem_filter.mp (hsub x hx)).1
theorem loop_fam {i : Nat} {s : En → Out} {α β : Type} (enc : α → D) (E : Addr → β → En) (I : List α → β → Prop) (xs : List α) (b0 : β) (h0 : I [] b0)
    (hs : ∀ pre x post b, xs = pre ++ x :: post → I pre b → ∃ b', (∀ a, s ((E a b).set i (.sh (enc x))) = .nx (E a b')) ∧ I (pre ++ [x]) b') : ∃ b', (∀ a, loopF (bN i) s (xs.map enc) (E a b0) = .nx (E a b')) ∧ I xs b' := by
  have key : ∀ (post pre : List α) (b : β), xs = pre ++ post → I pre b → ∃ b', (∀ a, loopF (bN i) s (post.map enc) (E a b) = .nx (E a b')) ∧ I xs b' := by
    intro post
    induction post with
    | nil => intro pre b e h; rw [List.append_nil] at e; subst e; exact ⟨b, fun _ => rfl, h⟩
    | cons x r ih =>
      intro pre b e h
      obtain ⟨b1, e1, h1⟩ := hs pre x r b e h
      obtain ⟨b2, e2, h2⟩ := ih (pre ++ [x]) b1 (by rw [e]; simp) h1
      refine ⟨b2, fun a => ?_, h2⟩
      rw [List.map_cons, loopF_N, e1 a]
      exact e2 a
  exact key xs [] b0 rfl h0
theorem while_fam {c : En → Option Bool} {s : En → Out} {β : Type} (E : Addr → β → En) (I : Nat → β → Prop) (hs : ∀ m b, I m b → (∀ a, c (E a b) = some false) ∨ ((∀ a, c (E a b) = some true) ∧ ∃ b' m', m' < m ∧ (∀ a, s (E a b) = .nx (E a b')) ∧ I m' b')) :
    ∀ (m N : Nat) (b : β), m < N → I m b → ∃ b' m', (∀ a, loopW c s N (E a b) = .nx (E a b')) ∧ I m' b' ∧ ∀ a, c (E a b') = some false := by
  intro m
  induction m using Nat.strongRecOn with
  | _ m ih =>
    intro N b hN h
    obtain ⟨N, rfl⟩ : ∃ k, N = k + 1 := ⟨N - 1, by omega⟩
    rcases hs m b h with e | ⟨e, b1, m1, lt, e1, h1⟩
    · exact ⟨b, m, fun a => by rw [loopW_succ, e a], h, e⟩
    · obtain ⟨b2, m2, q1, q2, q3⟩ := ih m1 lt N b1 (by omega) h1
      refine ⟨b2, m2, fun a => ?_, q2, q3⟩
      rw [loopW_succ, e a]
      show (s (E a b)).loop (loopW c s N) = _
      rw [e1 a]; exact q1 a
end B

/-! NC: first_of. -/
namespace B
open PySem PySem.Spec PyProof.Rows L2 DL
@[simp] theorem eOt_ap (f : En → Option D) (Γ : En) : eOt f Γ = f (otL Γ) := rfl
@[simp] theorem bOt_ap (f : En → Option Bool) (Γ : En) : bOt f Γ = f (otL Γ) := rfl
@[simp] theorem otL_nil : otL [] = [] := rfl
@[simp] theorem otL_cons (s : Sl) (Γ : En) : otL (s :: Γ) = otS s :: otL Γ := rfl
@[simp] theorem otS_od (a : Addr) (kvs : Kv) : otS (.od a kvs) = .ot kvs := rfl
@[simp] theorem otS_ot (kvs : Kv) : otS (.ot kvs) = .ot kvs := rfl
@[simp] theorem otS_sh (d : D) : otS (.sh d) = .sh d := rfl
@[simp] theorem otS_no : otS .no = .no := rfl
@[simp] theorem otS_ol (ds : List D) : otS (.ol ds) = .ol ds := rfl
@[simp] theorem kvOf_od (a : Addr) (kvs : Kv) : kvOf (.od a kvs) = some kvs := rfl
@[simp] theorem kvOf_ot (kvs : Kv) : kvOf (.ot kvs) = some kvs := rfl
@[simp] theorem kvTo_od (a : Addr) (k kvs : Kv) : kvTo (.od a k) kvs = .od a kvs := rfl
@[simp] theorem kvTo_ot (k kvs : Kv) : kvTo (.ot k) kvs = .ot kvs := rfl
@[simp] theorem mCall_ap (G : List D → Kv → Option (D × Kv)) (i : Nat) (fa : En → Option (List D)) (Γ : En) : mCall G i fa Γ = (fa Γ).bind fun ds => (kvOf (gs Γ i)).bind fun kvs => (G ds kvs).map fun p => (p.1, kvTo (gs Γ i) p.2) := rfl
@[simp] theorem mComp_ap (vs : List Nat) (f : En → Option (List D)) (b : Bd) (G : Mf) (i : Nat) (Γ : En) : mComp vs f b G i Γ = (f Γ).bind fun ds => if ds.length ≤ 1000000 then (compM b G i (wipeE Γ vs) (gs Γ i) ds).map fun p => (.lst p.1, p.2) else none := rfl
@[simp] theorem mTst_ap (h : D → D → Option D) (f : En → Option D) (g : Mf) (Γ : En) : mTst h f g Γ = (f Γ).bind fun d => (g Γ).bind fun p => ((h d p.1).bind isBl).map fun b => (b, p.2) := rfl
@[simp] theorem mAnd_ap (i : Nat) (c : En → Option Bool) (m : Mb) (Γ : En) : mAnd i c m Γ = (c Γ).bind fun b => if b = true then m Γ else (kvOf (gs Γ i)).map fun _ => (false, gs Γ i) := rfl
def ifMO (i : Nat) (o : Option (Bool × Sl)) (k : Option Kv) (s t : En → Out) (Γ : En) : Out := match o with
  | some (true, z) => (match k with
    | some _ => s (Γ.set i z)
    | none => .bad)
  | some (false, z) => (match k with
    | some _ => t (Γ.set i z)
    | none => .bad)
  | none => .bad
@[simp] theorem sIfM_ap (i : Nat) (c : Mb) (s t : En → Out) (Γ : En) : sIfM i c s t Γ = ifMO i (c Γ) (kvOf (gs Γ i)) s t Γ := rfl
@[simp] theorem ifMO_t (i : Nat) (z : Sl) (kvs : Kv) (s t : En → Out) (Γ : En) : ifMO i (some (true, z)) (some kvs) s t Γ = s (Γ.set i z) := rfl
@[simp] theorem ifMO_f (i : Nat) (z : Sl) (kvs : Kv) (s t : En → Out) (Γ : En) : ifMO i (some (false, z)) (some kvs) s t Γ = t (Γ.set i z) := rfl
def retMO (i : Nat) (o : Option (D × Sl)) (k : Option Kv) (Γ : En) : Out := match o with
  | some (d, z) => (match k with
    | some _ => .ret d (Γ.set i z)
    | none => .bad)
  | none => .bad
@[simp] theorem sRetM_ap (i : Nat) (f : Mf) (Γ : En) : sRetM i f Γ = retMO i (f Γ) (kvOf (gs Γ i)) Γ := rfl
@[simp] theorem retMO_s (i : Nat) (d : D) (z : Sl) (kvs : Kv) (Γ : En) : retMO i (some (d, z)) (some kvs) Γ = .ret d (Γ.set i z) := rfl
def putAO (i : Nat) (s : Sl) (o v : Option D) (Γ : En) : Out := match s, o, v with
  | .od a kvs, some (.tup xs), some d => (match asInts xs with
    | some k => if kvs.length < 1000000 then .nx (Γ.set i (.od a (pt kvs k d))) else .bad
    | none => .bad)
  | _, _, _ => .bad
@[simp] theorem sDputA_ap (i : Nat) (f g : En → Option D) (Γ : En) : sDputA i f g Γ = putAO i (gs Γ i) (f Γ) (g Γ) Γ := rfl
theorem putAO_s {i : Nat} {a : Addr} {kvs : Kv} {S : List Int} {d : D} {Γ : En} (h : kvs.length < 1000000) : putAO i (.od a kvs) (some (.tup (S.map D.int))) (some d) Γ = .nx (Γ.set i (.od a (pt kvs S d))) := by
  show (match asInts (S.map D.int) with
    | some k => if kvs.length < 1000000 then Out.nx (Γ.set i (.od a (pt kvs k d))) else .bad
    | none => .bad) = _
  rw [asInts_ints]
  exact if_pos h
theorem Good.less {n w : Int} {es : Ties} {kvs : Kv} {m m' : Nat} (h : Good n es w kvs m) (hm : m' ≤ m) : Good n es w kvs m' := fun K d e hl => h K d e (by omega)
theorem Stp.more {n w : Int} {es : Ties} {k k' : Kv} {m m' : Nat} (h : Stp n es w k k' m) (hm : m ≤ m') : Stp n es w k k' m' := ⟨h.old, fun K d a b => by
  obtain ⟨q1, q2⟩ := h.new K d a b
  exact ⟨by omega, q2⟩, h.ky⟩
/-- what the calls one after another give -/
theorem calls_seq {n w : Int} {es : Ties} {G : List D → Kv → Option (D × Kv)} {nr : D} {M : Nat}
    (hG : ∀ C kvs, C ≠ [] → C.length ≤ M → Ris n C → Ky n kvs → Good n es w kvs M → ∃ r kvs', G [nr, encI C, .int w] kvs = some (r, kvs') ∧ Stp n es w kvs kvs' M ∧ lk kvs' C = some r ∧ Val n es w kvs' C r)
    {i j : Nat} {fa : En → Option (List D)} :
    ∀ (cs : List (List Int)) (kvs : Kv), (∀ C ∈ cs, C ≠ [] ∧ C.length ≤ M ∧ Ris n C) → Ky n kvs → Good n es w kvs M →
      ∃ (os : List (Option Int)) (kvs' : Kv), (∀ (sl : Kv → Sl) (Γw : En), (∀ k k', kvOf (sl k) = some k ∧ kvTo (sl k) k' = sl k') → (∀ s C, fa (((Γw.set i s)).set j (.sh (encI C))) = some [nr, encI C, .int w]) → (∀ s C, gs ((Γw.set i s).set j (.sh (encI C))) i = s) → compM (bN j) (mCall G i fa) i Γw (sl kvs) (cs.map encI) = some (os.map encO, sl kvs')) ∧
        Stp n es w kvs kvs' M ∧ (none ∈ os ↔ ∃ C ∈ cs, ¬ Lay n es w C) ∧ (none ∉ os → ∀ C ∈ cs, Fin n es w kvs' C)
  | [], kvs, _, ky, _ => ⟨[], kvs, fun sl Γw hsl _ _ => by simp [compM, (hsl kvs kvs).1], Stp.refl ky M, by simp, by simp⟩
  | C :: cs, kvs, hc, ky, g => by
    obtain ⟨c1, c2, c3⟩ := hc C (by simp)
    obtain ⟨r, k1, e1, s1, l1, v1⟩ := hG C kvs c1 c2 c3 ky g
    obtain ⟨o, rfl⟩ := v1.O
    obtain ⟨os, k2, e2, s2, h2, h3⟩ := calls_seq hG (i := i) (j := j) (fa := fa) cs k1 (fun C hC => hc C (by simp [hC])) s1.ky (s1.good g)
    have v2 := v1.mono (kvs' := k2) fun K q hq => s2.old K _ hq
    obtain ⟨i1, i2⟩ := v2.iff
    refine ⟨o :: os, k2, fun sl Γw hsl hfa hgs => ?_, s1.trans s2, ?_, ?_⟩
    · rw [List.map_cons]
      unfold compM
      rw [(hsl kvs kvs).1]
      have hb : bN j (encI C) (Γw.set i (sl kvs)) = some ((Γw.set i (sl kvs)).set j (.sh (encI C))) := rfl
      simp only [hb, Option.bind_some, mCall_ap, hfa, hgs, (hsl kvs kvs).1, e1, Option.map_some, (hsl kvs k1).2]
      rw [e2 sl Γw hsl hfa hgs]
      rfl
    · rw [List.mem_cons]
      constructor
      · rintro (z | z)
        · exact ⟨C, by simp, i1.mp z.symm⟩
        · obtain ⟨C', q1, q2⟩ := h2.mp z
          exact ⟨C', by simp [q1], q2⟩
      · rintro ⟨C', q1, q2⟩
        rcases List.mem_cons.mp q1 with z | z
        · rw [z] at q2; exact .inl (i1.mpr q2).symm
        · exact .inr (h2.mpr ⟨C', z, q2⟩)
    · intro hn C' hC'
      have hn : ¬ none = o ∧ none ∉ os := by simpa using hn
      rcases List.mem_cons.mp hC' with z | z
      · rw [z]; exact i2 fun y => hn.1 y.symm
      · exact h3 hn.2 C' z
/-- in the midst of looking at a part's points -/
structure Mid (n : Int) (es : Ties) (w : Int) (kvs : Kv) (S pre : List Int) (k : Kv) : Prop where
  old : ∀ K d, lk kvs K = some d → lk k K = some d
  new : ∀ K d, K ≠ S → lk kvs K = none → lk k K = some d → K.length + 1 ≤ S.length ∧ Val n es w k K d
  ky : Ky n k
  me : (lk k S = some .non ∧ ∀ p ∈ pre, ¬ ∀ C ∈ comps es (wo S p), Lay n es w C) ∨ (∃ p ∈ S, lk k S = some (.int p) ∧ ∀ C ∈ comps es (wo S p), Fin n es w k C)
theorem first_spec {n w : Int} {es : Ties} (h : Web n es) : ∀ (d : Nat) (S : List Int) (kvs : Kv), S ≠ [] → S.length ≤ d → Ris n S → Ky n kvs → Good n es w kvs S.length →
    ∃ r kvs', gF_first_of d [encR (near n es), encI S, .int w] kvs = some (r, kvs') ∧ Stp n es w kvs kvs' S.length ∧ lk kvs' S = some r ∧ Val n es w kvs' S r
  | 0, S, kvs, h0, hl, _, _, _ => absurd (List.eq_nil_of_length_eq_zero (by omega)) h0
  | d + 1, S, kvs, h0, hl, hr, ky, g => by
    have hn1 := h.lo
    have hn2 := h.hi
    have hSl := ris_len hr
    have hSl2 : S.length ≤ 1000000 := by omega
    have hkl : kvs.length < 1000000 := by have := ky.len hn1 hn2; omega
    have har := g_around_eq h (ris_pts hr)
    have hlook := look_tS kvs S
    have htup : ∀ x, (D.tup (S.map D.int)) = x → x = D.tup (S.map D.int) := fun _ e => e.symm
    suffices hs : ∃ r kvs', RunsF 8 (m_first_of (gF_first_of d)) [encR (near n es), encI S, .int w] kvs r kvs' ∧ Stp n es w kvs kvs' S.length ∧ lk kvs' S = some r ∧ Val n es w kvs' S r by
      obtain ⟨r, kvs', h1, h2⟩ := hs
      exact ⟨r, kvs', runF_of h1, h2⟩
    cases e0 : lk kvs S with
    | some r =>
      refine ⟨r, kvs, fun a => ?_, Stp.refl ky _, e0, g S r e0 (Nat.le_refl _)⟩
      unfold m_first_of
      simp [List.replicate, hlook, e0]
    | none =>
      obtain ⟨k1, hk1⟩ : ∃ k1, k1 = pt kvs S .non := ⟨_, rfl⟩
      have ky1 : Ky n k1 := by rw [hk1]; exact ky.put hr .non
      have hlk1 : ∀ K, lk k1 K = if S = K then some .non else lk kvs K := fun K => by rw [hk1, lk_pt]
      have old1 : ∀ K d, lk kvs K = some d → lk k1 K = some d := fun K d e => by
        rw [hlk1, if_neg fun z => by rw [z, e] at e0; cases e0]; exact e
      have hlook1 := look_tS k1 S
      have hlkS : lk k1 S = some .non := by rw [hlk1, if_pos rfl]
      have hput := fun (a : Addr) (Γ : En) => putAO_s (i := 3) (a := a) (kvs := kvs) (S := S) (d := .non) (Γ := Γ) hkl
      by_cases ha : ((arnd n es S).length : Int) < w
      case neg =>
        have hnl : ¬ Lay n es w S := fun z => by cases z with | mk p q1 q2 q3 => exact ha q1
        refine ⟨.non, k1, fun a => ?_, ⟨old1, fun K d q1 q2 => ?_, ky1⟩, hlkS, .inl ⟨rfl, hnl⟩⟩
        · unfold m_first_of
          simp [List.replicate, hlook, e0, hput, ← hk1, har, ha, hlook1, hlkS]
        · rw [hlk1] at q2
          by_cases z : S = K
          · rw [if_pos z] at q2
            cases q2
            rw [← z]
            exact ⟨Nat.le_refl _, .inl ⟨rfl, hnl⟩⟩
          · rw [if_neg z, q1] at q2; cases q2
      have hwo := fun p => g_without_eq (S := S) (p := p) (by omega)
      have hpa := fun p => g_parts_among_eq h (S := wo S p) ⟨(ris_pts hr).nd.filter _, fun v hv => hr.ok v (List.mem_filter.mp hv).1⟩
      obtain ⟨⟨k2, x5, x6⟩, e2, hI⟩ := loop_fam (i := 5) (s := (sSeq (sSet 6 (eCall g_parts_among (aCons (eVar 0) (aCons (eCall g_without (aCons (eVar 1) (aCons (eVar 5) aNil))) aNil)))) (sIfM 3 (mAnd 3 (tst (eOp dIs (eOt (eDix 3 (eVar 4))) (eC .non))) (mTst dNotIn (eC .non) (mComp [7] (iL (eVar 6)) (bN 7) (mCall (gF_first_of d) 3 (aCons (eVar 0) (aCons (eVar 7) (aCons (eVar 2) aNil)))) 3))) (sDputA 3 (eVar 4) (eVar 5)) sNil))) D.int
        (fun (a : Addr) (b : Kv × Sl × Sl) => ([.sh (encR (near n es)), .sh (encI S), .sh (.int w), .od a b.1, .sh (.tup (S.map D.int)), b.2.1, b.2.2, .no] : En)) (fun pre b => Mid n es w kvs S pre b.1) S (k1, .no, .no)
        ⟨old1, fun K d q1 q2 q3 => (by rw [hlk1, if_neg fun z => q1 z.symm, q2] at q3; cases q3), ky1, .inl ⟨hlkS, by simp⟩⟩ (by
        rintro pre p post ⟨k, x5, x6⟩ hp m
        have hpS : p ∈ S := by rw [hp]; simp
        have hlk := look_tS k S
        have hcl : (comps es (wo S p)).length ≤ 1000000 := by
          have := comps_n (es := es) (S := wo S p)
          have := List.length_filter_le (fun x => !decide (x = p)) S
          unfold wo at *
          omega
        have hpa' := hpa p
        have hwo' : g_without [encI S, .int p] = .ok (encI (wo S p)) := hwo p
        rcases m.me with ⟨me1, me2⟩ | ⟨q, me1, me2, me3⟩
        · have gM : Good n es w k (S.length - 1) := fun K d e hK => by
            have hK2 : K ≠ S := fun z => by
              have : 0 < S.length := List.length_pos_iff.mpr h0
              rw [z] at hK; omega
            cases e5 : lk kvs K with
            | none => exact (m.new K d hK2 e5 e).2
            | some d' =>
              have := m.old K d' e5
              rw [this] at e
              cases e
              exact (g K _ e5 (by omega)).mono fun K q hq => m.old K _ hq
          obtain ⟨os, k3, e3, s3, n1, n2⟩ := calls_seq (G := gF_first_of d) (nr := encR (near n es)) (M := S.length - 1) (i := 3) (j := 7) (fa := aCons (eVar 0) (aCons (eVar 7) (aCons (eVar 2) aNil))) (fun C kv c1 c2 c3 c4 c5 => by
            obtain ⟨r, kv', q1, q2, q3, q4⟩ := first_spec h d C kv c1 (by omega) c3 c4 (c5.less c2)
            exact ⟨r, kv', q1, q2.more c2, q3, q4⟩) (comps es (wo S p)) k (fun C hC => by
            obtain ⟨q1, q2, q3, _⟩ := comps_wo hr hpS C hC
            exact ⟨q1, by omega, q3⟩) m.ky gM
          have e4 := fun (a : Addr) (x5 x6 : Sl) => e3 (fun kv => .od a kv) [.sh (encR (near n es)), .sh (encI S), .sh (.int w), .od a k, .sh (.tup (S.map D.int)), x5, x6, .no] (fun _ _ => ⟨rfl, rfl⟩) (fun s C => by simp) (fun s C => by simp)
          have hnin := dNotIn_O os
          have h3S : lk k3 S = some .non := s3.old S _ me1
          by_cases hn : none ∈ os
          · refine ⟨(k3, .sh (.int p), .sh (encR (comps es (wo S p)))), fun a => ?_, ⟨fun K d e => s3.old K d (m.old K d e), fun K d q1 q2 q3 => ?_, s3.ky, .inl ⟨h3S, fun p' hp' => ?_⟩⟩⟩
            · simp [hwo', hpa', hlk, me1, hcl, e4, hnin, hn, DL.isNon]
            · cases e5 : lk k K with
              | none =>
                obtain ⟨z1, z2⟩ := s3.new K d e5 q3
                have : 0 < S.length := List.length_pos_iff.mpr h0
                exact ⟨by omega, z2⟩
              | some d' =>
                have := s3.old K _ e5
                rw [this] at q3
                cases q3
                obtain ⟨z1, z2⟩ := m.new K _ q1 q2 e5
                exact ⟨z1, z2.mono fun K q hq => s3.old K _ hq⟩
            · rcases List.mem_append.mp hp' with z | z
              · exact me2 p' z
              · simp at z
                rw [z]
                intro y
                obtain ⟨C, c1, c2⟩ := n1.mp hn
                exact c2 (y C c1)
          · obtain ⟨k4, hk4⟩ : ∃ k4, k4 = pt k3 S (.int p) := ⟨_, rfl⟩
            have hl3 : k3.length < 1000000 := by have := s3.ky.len hn1 hn2; omega
            have hput3 := fun (a : Addr) (Γ : En) => putAO_s (i := 3) (a := a) (kvs := k3) (S := S) (d := .int p) (Γ := Γ) hl3
            have hlk4 : ∀ K, lk k4 K = if S = K then some (.int p) else lk k3 K := fun K => by rw [hk4, lk_pt]
            have up : ∀ K q, lk k3 K = some (.int q) → lk k4 K = some (.int q) := fun K q e => by
              rw [hlk4, if_neg fun z => by rw [← z, h3S] at e; cases e]; exact e
            refine ⟨(k4, .sh (.int p), .sh (encR (comps es (wo S p)))), fun a => ?_, ⟨fun K d e => ?_, fun K d q1 q2 q3 => ?_, by rw [hk4]; exact s3.ky.put hr _, .inr ⟨p, hpS, by rw [hlk4, if_pos rfl], fun C hC => (n2 hn C hC).mono up⟩⟩⟩
            · simp [hwo', hpa', hlk, me1, hcl, e4, hnin, hn, hput3, ← hk4, DL.isNon]
            · rw [hlk4, if_neg fun z => by rw [← z, e0] at e; cases e]
              exact s3.old K d (m.old K d e)
            · rw [hlk4, if_neg fun z => q1 z.symm] at q3
              cases e5 : lk k K with
              | none =>
                obtain ⟨z1, z2⟩ := s3.new K d e5 q3
                have : 0 < S.length := List.length_pos_iff.mpr h0
                exact ⟨by omega, z2.mono up⟩
              | some d' =>
                have := s3.old K _ e5
                rw [this] at q3
                cases q3
                obtain ⟨z1, z2⟩ := m.new K _ q1 q2 e5
                exact ⟨z1, z2.mono fun K q hq => up K q (s3.old K _ hq)⟩
        · refine ⟨(k, .sh (.int p), .sh (encR (comps es (wo S p)))), fun a => ?_, ⟨m.old, m.new, m.ky, .inr ⟨q, me1, me2, me3⟩⟩⟩
          simp [hwo', hpa', hlk, me2, DL.isNon])
      have hlk2 := look_tS k2 S
      have hlast : ∃ r, lk k2 S = some r ∧ Val n es w k2 S r := by
        rcases hI.me with ⟨q1, q2⟩ | ⟨p, q1, q2, q3⟩
        · exact ⟨.non, q1, .inl ⟨rfl, fun z => by cases z with | mk p y1 y2 y3 => exact q2 p y2 y3⟩⟩
        · exact ⟨.int p, q2, .inr ⟨⟨p, rfl⟩, .mk p q2 q1 ha q3⟩⟩
      obtain ⟨r, l2, v2⟩ := hlast
      refine ⟨r, k2, fun a => ?_, ⟨hI.old, fun K d q1 q2 => ?_, hI.ky⟩, l2, v2⟩
      · have e2 := e2 a
        dsimp only at e2
        unfold m_first_of
        simp [List.replicate, hlook, e0, hput, ← hk1, har, ha, hlook1, e2, hlk2, l2]
      · by_cases z : K = S
        · subst z
          rw [l2] at q2
          cases q2
          exact ⟨Nat.le_refl _, v2⟩
        · obtain ⟨y1, y2⟩ := hI.new K d z q1 q2
          exact ⟨by omega, y2⟩
end B

/-! ND: laid, layout, least. -/
namespace B
open PySem PySem.Spec PyProof.Rows L2 DL
theorem flat_nodup {ls : List Int} {f : Int → List Int} (h1 : ∀ x ∈ ls, (f x).Nodup) (h2 : ls.Pairwise fun a b => ∀ z ∈ f a, z ∉ f b) : (ls.flatMap f).Nodup := by
  induction ls with
  | nil => simp
  | cons x r ih =>
    obtain ⟨q1, q2⟩ := List.pairwise_cons.mp h2
    rw [List.flatMap_cons]
    refine List.nodup_append.mpr ⟨h1 x (by simp), ih (fun y hy => h1 y (by simp [hy])) q2, fun a ha b hb e => ?_⟩
    subst e
    obtain ⟨y, hy, hz⟩ := List.mem_flatMap.mp hb
    exact q1 y hy a ha hz
theorem comps_flat {es : Ties} {T : List Int} (nd : T.Nodup) : ((comps es T).flatten).Perm T := by
  classical
  have snd := srt_nodup nd
  have hf : (comps es T).flatten = ((srt T).filter fun p => decide (∀ q ∈ T, Con es T p q → p ≤ q)).flatMap fun p => (srt T).filter fun q => decide (Con es T p q) := by
    unfold comps; rw [List.flatMap_def]
  refine (List.perm_ext_iff_of_nodup ?_ nd).mpr fun x => ?_
  · rw [hf]
    refine flat_nodup (fun p _ => snd.filter _) (List.Pairwise.imp_of_mem (R := fun a b => a ≠ b) (fun {a b} ha hb hab z hz hz2 => hab ?_) (snd.filter _))
    obtain ⟨ha1, ha2⟩ := List.mem_filter.mp ha
    obtain ⟨hb1, hb2⟩ := List.mem_filter.mp hb
    have c1 := of_decide_eq_true (List.mem_filter.mp hz).2
    have c2 := of_decide_eq_true (List.mem_filter.mp hz2).2
    have c := c1.trans c2.symm
    have := of_decide_eq_true ha2 b c.right c
    have := of_decide_eq_true hb2 a c.left c.symm
    omega
  · rw [hf, List.mem_flatMap]
    constructor
    · rintro ⟨p, _, hx⟩
      exact mem_srt.mp (List.mem_filter.mp hx).1
    · intro hx
      obtain ⟨l, hl⟩ := lab_ex T es
      have m := hl x hx
      refine ⟨l x, List.mem_filter.mpr ⟨mem_srt.mpr m.1.right, decide_eq_true fun q hq c => m.2 q (m.1.trans c)⟩, List.mem_filter.mpr ⟨mem_srt.mpr hx, decide_eq_true m.1.symm⟩⟩
theorem comps_sum {es : Ties} {T : List Int} (nd : T.Nodup) : ((comps es T).map List.length).sum = T.length := by
  rw [← (comps_flat (es := es) nd).length_eq, List.length_flatten]
def encW (p : List Int × Int) : D := .tup [encI p.1, .int p.2]
def popO (i : Nat) (b : Bd) (s : Sl) (Γ : En) : Out := match s with
  | .ol ds => (match ds[ds.length - 1]? with
    | some d => (match b d (Γ.set i (.ol ds.dropLast)) with
      | some Γ' => .nx Γ'
      | none => .bad)
    | none => .bad)
  | _ => .bad
@[simp] theorem sPop_ap (i : Nat) (b : Bd) (Γ : En) : sPop i b Γ = popO i b (gs Γ i) Γ := by unfold sPop popO; cases gs Γ i <;> rfl
theorem popO_2 {i j k : Nat} {ds : List D} {x y : D} {Γ : En} : popO i (b2 j k) (.ol (ds ++ [.tup [x, y]])) Γ = .nx (((Γ.set i (.ol ds)).set j (.sh x)).set k (.sh y)) := by
  have h1 : (ds ++ [D.tup [x, y]])[(ds ++ [D.tup [x, y]]).length - 1]? = some (.tup [x, y]) := by simp
  have h2 : (ds ++ [D.tup [x, y]]).dropLast = ds := by simp
  unfold popO
  simp only [h1, h2]
  rfl
def szW (W : List (List Int × Int)) : Nat := (W.map fun p => p.1.length).sum
theorem szW_app (a b : List (List Int × Int)) : szW (a ++ b) = szW a + szW b := by simp [szW]
theorem szW_len {W : List (List Int × Int)} (h : ∀ p ∈ W, p.1 ≠ []) : W.length ≤ szW W := by
  induction W with
  | nil => simp [szW]
  | cons p r ih =>
    have i := ih fun q hq => h q (by simp [hq])
    have h0 : 0 < p.1.length := List.length_pos_iff.mpr (h p (by simp))
    simp only [szW, List.map_cons, List.sum_cons, List.length_cons] at i ⊢
    omega
theorem okN_W (n : Nat) (p : List Int × Int) : okN (n + 2) (encW p) = true := by
  show [encI p.1, .int p.2].all (okN (n + 1)) = true
  rw [List.all_cons, okN_I n, List.all_cons, okN_i]; rfl
theorem dNe_W (W : List (List Int × Int)) : dNe (.lst (W.map encW)) (.lst []) = some (.bl (!W.isEmpty)) := by
  have h1 : okN 9 (.lst (W.map encW)) = true := okN_enc encW (okN_W 6) W
  have h2 : okN 9 (.lst []) = true := rfl
  have h3 := dEq_ok _ _ h1 h2
  rw [dEq_nil, List.isEmpty_map] at h3
  injection h3 with h3
  injection h3 with h3
  rw [dNe_ok _ _ h1 h2, ← h3]
structure Wt (n : Int) (es : Ties) (w : Int) (kvs : Kv) (W : List (List Int × Int)) : Prop where
  all : ∀ p ∈ W, p.1 ≠ [] ∧ Ris n p.1 ∧ Fin n es w kvs p.1
theorem laid_spec {n w : Int} {es : Ties} (h : Web n es) {parts : List (List Int)} {kvs : Kv} (hp : ∀ S ∈ parts, S ≠ [] ∧ Ris n S ∧ Fin n es w kvs S) (hs : (parts.map List.length).sum ≤ 1000) : ∃ bags links, gF_laid [encR (near n es), encR parts] kvs = some (.tup [.lst bags, .lst links], kvs) := by
  suffices hx : ∃ bags links, RunsF 11 m_laid [encR (near n es), encR parts] kvs (.tup [.lst bags, .lst links]) kvs by
    obtain ⟨b, l, e⟩ := hx
    exact ⟨b, l, runF_of e⟩
  have hn1 := h.lo
  have hn2 := h.hi
  obtain ⟨W0, hW0⟩ : ∃ W0 : List (List Int × Int), W0 = parts.map fun S => (S, 0) := ⟨_, rfl⟩
  have wt0 : Wt n es w kvs W0 := ⟨fun p hpp => by
    rw [hW0] at hpp
    obtain ⟨S, hS, rfl⟩ := List.mem_map.mp hpp
    exact hp S hS⟩
  have sz0 : szW W0 = (parts.map List.length).sum := by
    rw [hW0]; unfold szW; rw [List.map_map]; rfl
  have hpl : parts.length ≤ 1000 := by
    have := szW_len (W := W0) fun p hpp => (wt0.all p hpp).1
    rw [sz0, hW0, List.length_map] at this
    omega
  obtain ⟨⟨bags, links, W, t1, t2, t3, t4⟩, m', e1, ⟨hI1, hI2, hI3, hI4⟩, hc⟩ := while_fam (c := bBor [5] (tst (eOp dNe (eVar 5) (eLst aNil)))) (s := (sSeq (sPop 5 (b2 6 7)) (sSeq (sSet 8 (eOt (eDix 2 (eCB dTuple (aCons (eVar 6) aNil))))) (sSeq (sSet 9 (eBor [3] (eCB dLen (aCons (eVar 3) aNil)))) (sSeq (sAppend 3 (eL (fCB dSorted (aCons (eOp dAdd (eCall g_around (aCons (eVar 0) (aCons (eVar 6) aNil))) (eLst (aCons (eVar 8) aNil))) aNil)))) (sSeq (sIf (tst (eOp dGt (eVar 9) (eC (.int 0)))) (sAppend 4 (eTup (aCons (eVar 7) (aCons (eVar 9) aNil)))) sNil) (sExtend 5 (eL (fComp [10] (iL (eCall g_parts_among (aCons (eVar 0) (aCons (eCall g_without (aCons (eVar 6) (aCons (eVar 8) aNil))) aNil)))) (bN 10) bYes (eTup (aCons (eVar 10) (aCons (eVar 9) aNil))))))))))))
    (fun (a : Addr) (b : List D × List D × List (List Int × Int) × Sl × Sl × Sl × Sl) => ([.sh (encR (near n es)), .sh (encR parts), .od a kvs, .ol b.1, .ol b.2.1, .ol (b.2.2.1.map encW), b.2.2.2.1, b.2.2.2.2.1, b.2.2.2.2.2.1, b.2.2.2.2.2.2, .no] : En))
    (fun m b => Wt n es w kvs b.2.2.1 ∧ szW b.2.2.1 = m ∧ b.1.length + m ≤ 1000 ∧ b.2.1.length ≤ b.1.length) (by
    rintro m ⟨bags, links, W, t1, t2, t3, t4⟩ ⟨hI1, hI2, hI3, hI4⟩
    dsimp only at hI1 hI2 hI3 hI4
    rcases List.eq_nil_or_concat W with rfl | ⟨W1, ⟨S, ab⟩, rfl⟩
    · left
      intro a
      have e0 : dNe (.lst []) (.lst []) = some (.bl false) := rfl
      simp [e0]
    · right
      rw [List.concat_eq_append] at hI1 hI2 ⊢
      have hne : dNe (.lst (W1.map encW ++ [encW (S, ab)])) (.lst []) = some (.bl true) := by
        have := dNe_W (W1 ++ [(S, ab)])
        rw [List.map_append] at this
        have h2 : (W1 ++ [(S, ab)]).isEmpty = false := by simp
        rw [h2] at this
        exact this
      obtain ⟨hS0, hSr, hSf⟩ := hI1.all (S, ab) (by simp)
      dsimp only at hS0 hSr hSf
      cases hSf with
      | mk p l1 l2 l3 l4 =>
      refine ⟨fun a => by simp [hne], ?_⟩
      have hlk := look_tS kvs S
      have har := g_around_eq h (ris_pts hSr)
      have hal := arnd_len (S := S) h
      have hSl := ris_len hSr
      have hwo : g_without [encI S, .int p] = .ok (encI (wo S p)) := g_without_eq (S := S) (p := p) (by omega)
      have hpa := g_parts_among_eq h (S := wo S p) ⟨(ris_pts hSr).nd.filter _, fun v hv => hSr.ok v (List.mem_filter.mp hv).1⟩
      have hwl : (wo S p).length + 1 = S.length := by
        unfold wo
        have := filter_one (P := fun _ => true) (Q := fun x => !decide (x = p)) (ris_pts hSr).nd l2 rfl (fun x _ => by simp)
        have e : S.filter (fun _ => true) = S := List.filter_eq_self.mpr fun _ _ => rfl
        rw [e] at this
        omega
      obtain ⟨cs, hcs⟩ : ∃ cs, cs = comps es (wo S p) := ⟨_, rfl⟩
      have hcn := comps_n (es := es) (S := wo S p)
      rw [← hcs] at hpa hcn l4
      have hcl : cs.length ≤ 1000000 := by omega
      have hpop : ∀ Γ, popO 5 (b2 6 7) (.ol (W1.map encW ++ [encW (S, ab)])) Γ = .nx (((Γ.set 5 (.ol (W1.map encW))).set 6 (.sh (encI S))).set 7 (.sh (.int ab))) := fun Γ => popO_2
      have hds : dSorted [.lst ((arnd n es S).map D.int ++ [.int p])] = some ((srt (arnd n es S ++ [p])).map D.int) := by
        have := dSorted_i (arnd n es S ++ [p])
        rw [List.map_append] at this
        exact this
      have k1 : (arnd n es S).length + 1 ≤ 1000000 := by omega
      have k2 : bags.length < 1000000 := by omega
      have k3 : links.length < 1000000 := by omega
      have hsz : szW W1 + S.length = m := by
        have := szW_app W1 [(S, ab)]
        simp only [szW, List.map_cons, List.map_nil, List.sum_cons, List.sum_nil] at this hI2 ⊢
        omega
      have hw1 := szW_len (W := W1) fun q hq => (hI1.all q (by simp [hq])).1
      have k4 : W1.length + cs.length ≤ 1000000 := by omega
      have hcm := fun (Γ : En) (hg : gv Γ 9 = some (.int (bags.length : Int)) ∧ Γ.length = 11) => compF_all (i := 10) (f := eTup (aCons (eVar 10) (aCons (eVar 9) aNil))) (Γ := Γ) encI encW (fun C => (C, (bags.length : Int))) cs (fun C _ => by
        have h1 : gv (Γ.set 10 (.sh (encI C))) 9 = some (.int (bags.length : Int)) := by
          obtain ⟨h1, h2⟩ := hg
          match Γ, h2 with
          | [a0, a1, a2, a3, a4, a5, a6, a7, a8, a9, a10], _ =>
            simp at h1 ⊢
            cases a9 with
            | sh d => exact h1
            | _ => cases h1
        have h2 : gv (Γ.set 10 (.sh (encI C))) 10 = some (encI C) := by
          obtain ⟨h1, h2⟩ := hg
          match Γ, h2 with
          | [a0, a1, a2, a3, a4, a5, a6, a7, a8, a9, a10], _ => simp
        simp [h1, h2]
        rfl)
      have wt' : Wt n es w kvs (W1 ++ cs.map fun C => (C, (bags.length : Int))) := ⟨fun q hq => by
        rcases List.mem_append.mp hq with z | z
        · exact hI1.all q (by simp [z])
        · obtain ⟨C, hC, rfl⟩ := List.mem_map.mp z
          obtain ⟨y1, y2, y3, _⟩ := comps_wo hSr l2 C (by rw [← hcs]; exact hC)
          exact ⟨y1, y3, l4 C hC⟩⟩
      have hsum := comps_sum (es := es) (T := wo S p) ((ris_pts hSr).nd.filter _)
      rw [← hcs] at hsum
      have sz' : szW (W1 ++ cs.map fun C => (C, (bags.length : Int))) + 1 = m := by
        rw [szW_app]
        have : szW (cs.map fun C => (C, (bags.length : Int))) = (cs.map List.length).sum := by unfold szW; rw [List.map_map]; rfl
        omega
      obtain ⟨lk', hlk', hll⟩ : ∃ lk' : List D, (lk' = links ++ (if bags.length = 0 then [] else [.tup [.int ab, .int (bags.length : Int)]])) ∧ lk'.length ≤ bags.length + 1 := ⟨_, rfl, by split <;> simp <;> omega⟩
      refine ⟨(bags ++ [.lst ((srt (arnd n es S ++ [p])).map D.int)], lk', W1 ++ cs.map fun C => (C, (bags.length : Int)), .sh (encI S), .sh (.int ab), .sh (.int p), .sh (.int (bags.length : Int))), m - 1, by have := List.length_pos_iff.mpr hS0; omega, fun a => ?_, wt', by dsimp only; omega, by dsimp only; simp; omega, by dsimp only; simp; omega⟩
      by_cases hb : bags.length = 0
      · have hb1 : ¬ (0 : Int) < (bags.length : Int) := by omega
        have hb2 : bags = [] := List.eq_nil_of_length_eq_zero hb
        have hcm' := hcm [.sh (encR (near n es)), .sh (encR parts), .od a kvs, .ol (bags ++ [.lst ((srt (arnd n es S ++ [p])).map D.int)]), .ol links, .ol (W1.map encW), .sh (encI S), .sh (.int ab), .sh (.int p), .sh (.int (bags.length : Int)), .no] ⟨by simp, rfl⟩
        rw [hlk', if_pos hb]
        subst hb2
        simp [hpop, hlk, l1, har, k1, hds, hwo, hpa, hcl] at hcm' ⊢
        simp [hcm', k4]
      · have hb1 : 0 < bags.length := by omega
        have hcm' := hcm [.sh (encR (near n es)), .sh (encR parts), .od a kvs, .ol (bags ++ [.lst ((srt (arnd n es S ++ [p])).map D.int)]), .ol (links ++ [.tup [.int ab, .int (bags.length : Int)]]), .ol (W1.map encW), .sh (encI S), .sh (.int ab), .sh (.int p), .sh (.int (bags.length : Int)), .no] ⟨by simp, rfl⟩
        rw [hlk', if_neg hb]
        simp [hpop, hlk, l1, har, k1, hds, k2, k3, hb1, hwo, hpa, hcl] at hcm' ⊢
        simp [hcm', k4])
    (szW W0) 1000000 ([], [], W0, .no, .no, .no, .no) (by omega) ⟨wt0, rfl, by simp; omega, by simp⟩
  refine ⟨bags, links, fun a => ?_⟩
  unfold m_laid
  have hcm := fun (Γ : En) (hg : Γ.length = 11) => compF_all (i := 6) (f := eTup (aCons (eVar 6) (aCons (eC (.int 0)) aNil))) (Γ := Γ) encI encW (fun C => (C, 0)) parts (fun C _ => by
    have h2 : gv (Γ.set 6 (.sh (encI C))) 6 = some (encI C) := by
      match Γ, hg with
      | [a0, a1, a2, a3, a4, a5, a6, a7, a8, a9, a10], _ => simp
    simp [h2]
    rfl)
  have hcm' := hcm [.sh (encR (near n es)), .sh (encR parts), .od a kvs, .ol [], .ol [], .no, .no, .no, .no, .no, .no] rfl
  have hp2 : parts.length ≤ 1000000 := by omega
  have e1 := e1 a
  dsimp only at e1
  rw [← hW0] at hcm'
  simp [List.replicate, hp2, hcm', e1]
end B

/-! NE: layout, least. -/
namespace B
open PySem PySem.Spec PyProof.Rows L2 DL
theorem comps_mem {n : Int} {es : Ties} {T : List Int} (h : Ris n T) : ∀ C ∈ comps es T, C ≠ [] ∧ C.length ≤ T.length ∧ Ris n C ∧ ∀ x ∈ C, x ∈ T := fun C hC => by
  classical
  unfold comps at hC
  obtain ⟨q, hq, rfl⟩ := List.mem_map.mp hC
  obtain ⟨hq1, hq2⟩ := List.mem_filter.mp hq
  have hwi := h.inc
  have hsrt : srt T = T := sorted_eq (srt_sorted _) (hwi.imp fun q => by omega) (srt_nodup (hwi.imp fun q => by omega)) (hwi.imp fun q => by omega) fun x => mem_srt
  rw [hsrt] at hq1 ⊢
  have hsub : ∀ x ∈ T.filter (fun q' => decide (Con es T q q')), x ∈ T := fun x hx => (List.mem_filter.mp hx).1
  refine ⟨fun z => ?_, List.length_filter_le _ _, ⟨hwi.filter _, fun x hx => h.ok x (hsub x hx)⟩, hsub⟩
  have : q ∈ T.filter (fun q' => decide (Con es T q q')) := List.mem_filter.mpr ⟨hq1, decide_eq_true (.refl hq1)⟩
  rw [z] at this; cases this
def LayAll (n : Int) (es : Ties) (w : Int) : Prop := ∀ C ∈ comps es (ptsOf n), Lay n es w C
theorem need_most_ok {n w : Int} {es : Ties} (h : Web n es) (h1 : 1 ≤ w) (h2 : w ≤ n) : g_need_most [.int n, encT es, .int w] = .ok .non := by
  unfold g_need_most; rw [runD_eq]; unfold m_need_most
  simp [List.replicate, g_need_web_eq h, h1, h2]
theorem layout_ex {n w : Int} {es : Ties} (h : Web n es) (h1 : 1 ≤ w) (h2 : w ≤ n) : ∃ d, g_layout [.int n, encT es, .int w] = .ok d ∧ (LayAll n es w → DL.isNon d = false) ∧ (¬ LayAll n es w → d = .non) := by
  unfold g_layout
  simp only [runD_eq]; unfold m_layout
  have hn1 := h.lo
  have hn2 := h.hi
  have e1 : 0 ≤ n ∧ n ≤ 1000000 := by omega
  have hnr := g_near_of_eq h
  have hnm := need_most_ok h h1 h2
  have hpa := g_parts_among_eq h (pts_all n)
  have hpl := (pts_all n).len
  have hparts := comps_mem (es := es) (pts_ris n)
  have hcl : (comps es (ptsOf n)).length ≤ 1000000 := by have := comps_n (es := es) (S := ptsOf n); omega
  have ky0 : Ky n [] := ⟨by simp, by simp⟩
  have g0 : Good n es w [] 10 := fun K d e => by rw [lk_nil] at e; cases e
  obtain ⟨os, kvs, ec, st, hn, hf⟩ := calls_seq (n := n) (w := w) (es := es) (G := gF_first_of 11) (nr := encR (near n es)) (M := 10) (i := 4) (j := 6) (fa := aCons (eVar 3) (aCons (eVar 6) (aCons (eVar 2) aNil))) (fun C kv c1 c2 c3 c4 c5 => by
    obtain ⟨r, kv', q1, q2, q3, q4⟩ := first_spec h 11 C kv c1 (by omega) c3 c4 (c5.less c2)
    exact ⟨r, kv', q1, q2.more c2, q3, q4⟩) (comps es (ptsOf n)) [] (fun C hC => by
    obtain ⟨q1, q2, q3, _⟩ := hparts C hC
    exact ⟨q1, by omega, q3⟩) ky0 g0
  have ec := ec (fun kv => .ot kv) [.sh (.int n), .sh (encT es), .sh (.int w), .sh (encR (near n es)), .ot [], .sh (encR (comps es (ptsOf n))), .no] (fun _ _ => ⟨rfl, rfl⟩) (fun s C => by simp) (fun s C => by simp)
  have hin := dIn_O os
  by_cases hno : none ∈ os
  · have hla : ¬ LayAll n es w := fun z => by
      obtain ⟨C, c1, c2⟩ := hn.mp hno
      exact c2 (z C c1)
    refine ⟨.non, ?_, fun z => absurd z hla, fun _ => rfl⟩
    simp [List.replicate, hnm, hnr, e1, rng_pts, hpa, hcl, ec, hin, hno]
  · have hla : LayAll n es w := fun C hC => (hf hno C hC).lay
    obtain ⟨bags, links, el⟩ := laid_spec (w := w) h (parts := comps es (ptsOf n)) (kvs := kvs) (fun C hC => ⟨(hparts C hC).1, (hparts C hC).2.2.1, hf hno C hC⟩) (by rw [comps_sum (ptsOf_nodup n)]; omega)
    refine ⟨.tup [.lst bags, .lst links], ?_, fun _ => rfl, fun z => absurd hla z⟩
    simp [List.replicate, hnm, hnr, e1, rng_pts, hpa, hcl, ec, hin, hno, el]
theorem least_ex {n : Int} {es : Ties} (h : Web n es) : ∃ s, g_least [.int n, encT es] = .ok (.int s) ∧ 1 ≤ s ∧ s ≤ n ∧ (∀ k, 1 ≤ k → k < s → ¬ LayAll n es k) ∧ (s < n → LayAll n es s) := by
  classical
  unfold g_least
  simp only [runD_eq]; unfold m_least
  have hn1 := h.lo
  have hn2 := h.hi
  have hn3 : n ≤ 1000000 ∧ -1000000 ≤ n := by omega
  have hrg : rng 1 (n.toNat - 1) = (ptsFrom 1 n).map D.int := by rw [← rng_from 1 n]; congr 1; omega
  simp [List.replicate, g_need_web_eq h, hn3, hrg]
  have hstep := loop_first (i := 2) (s := sIf (tst (eOp dIsNot (eCall g_layout (aCons (eVar 0) (aCons (eVar 1) (aCons (eVar 2) aNil)))) (eC .non))) (sRet (eVar 2)) sNil) D.int (fun Γ => ∃ x2, Γ = [.sh (.int n), .sh (encT es), x2]) (fun k => decide (LayAll n es k)) (fun k => D.int k) (ptsFrom 1 n) [.sh (.int n), .sh (encT es), .no] ⟨_, rfl⟩ (by
    rintro k hk Γ ⟨x2, rfl⟩
    obtain ⟨q1, q2⟩ := mem_from.mp hk
    obtain ⟨d, e, f1, f2⟩ := layout_ex (w := k) h q1 (by omega)
    by_cases hl : LayAll n es k
    · have := f1 hl
      simp [e, this, hl]
    · have := f2 hl
      subst this
      simp [e, hl, DL.isNon])
  rcases hstep with ⟨pre, k, post, Γ', e1, e2, e3, e4⟩ | ⟨e1, Γ', e2, x2, rfl⟩
  · have hk := mem_from.mp (show k ∈ ptsFrom 1 n by rw [e1]; simp)
    refine ⟨k, by rw [e4]; rfl, hk.1, by omega, fun j h1 h2 => ?_, fun _ => of_decide_eq_true e3⟩
    have hj : j ∈ pre := by
      have hm : j ∈ ptsFrom 1 n := mem_from.mpr (by omega)
      have hinc := from_inc 1 n
      rw [e1] at hm hinc
      rcases List.mem_append.mp hm with z | z
      · exact z
      · rcases List.mem_cons.mp z with z | z
        · omega
        · have := (List.pairwise_cons.mp (List.pairwise_append.mp hinc).2.1).1 _ z
          omega
    exact of_decide_eq_false (e2 j hj)
  · refine ⟨n, by rw [e2]; rfl, hn1, Int.le_refl _, fun j h1 h2 => ?_, fun z => absurd z (by omega)⟩
    exact of_decide_eq_false (e1 j (mem_from.mpr (by omega)))
end B

/-! NF: orders and layings; plain. -/
namespace B
open PySem PySem.Spec PyProof.Rows L2 DL
/-- what comes behind is what is reached -/
theorem Eli.reach {N : Nat} {es : Ties} {o : Nat → Int} {L : Nat → List Int} {par : Nat → Nat} (e : Eli N es o L par) : ∀ (k a b : Nat), a ≠ b → k ≤ a → k ≤ b → Pth es o N k a b → (a < b → o b ∈ L a) ∧ (b < a → o a ∈ L b)
  | 0, a, b, hab, _, _, p => by
    cases p with
    | edge h1 h2 ad => exact ⟨fun h => e.tie a b h h2 ad, fun h => e.tie b a h h1 ad.symm⟩
    | step _ h _ _ => exact absurd h (Nat.not_lt_zero _)
  | k + 1, a, b, hab, ha, hb, p => by
    rcases p.split with q | ⟨q1, q2⟩
    · exact Eli.reach e k a b hab (by omega) (by omega) q
    · have r1 := (Eli.reach e k a k (by omega) (by omega) (Nat.le_refl k) q1).2 (by omega)
      have r2 := (Eli.reach e k k b (by omega) (Nat.le_refl k) (by omega) q2).1 (by omega)
      have hk := q1.right
      exact ⟨fun h => e.fill k a b hk h p.right r1 r2, fun h => e.fill k b a hk h p.left r2 r1⟩
theorem comps_con {es : Ties} {T : List Int} : ∀ C ∈ comps es T, (∀ a ∈ C, ∀ b ∈ C, Con es C a b) ∧ ∀ a ∈ C, ∀ b ∈ T, Adj es a b → b ∈ C := fun C hC => by
  classical
  unfold comps at hC
  obtain ⟨q, hq, rfl⟩ := List.mem_map.mp hC
  have hm : ∀ x, x ∈ (srt T).filter (fun q' => decide (Con es T q q')) ↔ Con es T q x := fun x => by
    rw [List.mem_filter, decide_eq_true_eq]
    exact ⟨fun h => h.2, fun h => ⟨mem_srt.mpr h.right, h⟩⟩
  have hq0 : q ∈ T := mem_srt.mp (List.mem_filter.mp hq).1
  have key : ∀ x, Con es T q x → Con es ((srt T).filter fun q' => decide (Con es T q q')) q x := fun x c => by
    induction c with
    | refl h => exact .refl ((hm _).mpr (.refl h))
    | step p a h ih => exact ih.step a ((hm _).mpr (p.step a h))
  refine ⟨fun a ha b hb => (key a ((hm a).mp ha)).symm.trans (key b ((hm b).mp hb)), fun a ha b hb ad => (hm b).mpr (((hm a).mp ha).step ad hb)⟩
theorem comps_apart {es : Ties} {T : List Int} (nd : T.Nodup) : (comps es T).Pairwise fun A C => ∀ a ∈ A, ∀ c ∈ C, a ≠ c ∧ ¬ Adj es a c := by
  classical
  have snd := srt_nodup nd
  unfold comps
  rw [List.pairwise_map]
  refine List.Pairwise.imp_of_mem (R := fun a b => a ≠ b) (fun {a b} ha hb hab => ?_) (snd.filter _)
  obtain ⟨ha1, ha2⟩ := List.mem_filter.mp ha
  obtain ⟨hb1, hb2⟩ := List.mem_filter.mp hb
  have no : ¬ Con es T a b := fun c => by
    have := of_decide_eq_true ha2 b c.right c
    have := of_decide_eq_true hb2 a c.left c.symm
    omega
  intro x hx y hy
  have c1 := of_decide_eq_true (List.mem_filter.mp hx).2
  have c2 := of_decide_eq_true (List.mem_filter.mp hy).2
  refine ⟨fun z => ?_, fun ad => ?_⟩
  · subst z; exact no (c1.trans c2.symm)
  · exact no ((c1.step ad c2.right).trans c2.symm)
section
variable {n w : Int} {es : Ties}
/-- a part whose ways out all come later: it can be laid if the bags are small -/
theorem lay_of {o : Nat → Int} {L : Nat → List Int} {par : Nat → Nat} (h : Web n es) (e : Eli n.toNat es o L par) (hw : ∀ k, k < n.toNat → ((bagOf o L k).length : Int) ≤ w) :
    ∀ (m : Nat) (S : List Int), S.length ≤ m → S ≠ [] → Ris n S → (∀ a ∈ S, ∀ b ∈ S, Con es S a b) → (∀ i j, i < n.toNat → j < n.toNat → o i ∈ S → o j ∈ arnd n es S → i < j) → Lay n es w S
  | 0, S, hl, h0, _, _, _ => absurd (List.eq_nil_of_length_eq_zero (by omega)) h0
  | m + 1, S, hl, h0, hr, hc, hf => by
    have hn : ((n.toNat : Nat) : Int) = n := by have := h.lo; omega
    have sur : ∀ v, 0 ≤ v → v < n → ∃ i, i < n.toNat ∧ o i = v := fun v q1 q2 => e.sur q1 (by omega)
    -- the one that comes last
    obtain ⟨i, hi, hiS, hmax⟩ : ∃ i, i < n.toNat ∧ o i ∈ S ∧ ∀ j, j < n.toNat → o j ∈ S → j ≤ i := by
      have key : ∀ k, k ≤ n.toNat → (∃ j, j < k ∧ o j ∈ S) → ∃ i, i < k ∧ o i ∈ S ∧ ∀ j, j < k → o j ∈ S → j ≤ i := fun k => by
        induction k with
        | zero => rintro _ ⟨j, hj, _⟩; omega
        | succ k ih =>
          rintro hk ⟨j, hj, hjS⟩
          by_cases z : o k ∈ S
          · exact ⟨k, by omega, z, fun j hj _ => by omega⟩
          · have hjk : j ≠ k := fun y => z (y ▸ hjS)
            obtain ⟨i, q1, q2, q3⟩ := ih (by omega) ⟨j, by omega, hjS⟩
            exact ⟨i, by omega, q2, fun j' hj' hS' => q3 j' (by have : j' ≠ k := fun y => z (y ▸ hS'); omega) hS'⟩
      obtain ⟨v, hv⟩ := List.exists_mem_of_ne_nil _ h0
      obtain ⟨q1, q2⟩ := hr.ok v hv
      obtain ⟨j, hj, rfl⟩ := sur v q1 q2
      exact key n.toNat (Nat.le_refl _) ⟨j, hj, hv⟩
    have path : ∀ x, Con es S (o i) x → ∀ c, c < n.toNat → o c = x → c = i ∨ Pth es o n.toNat i i c := fun x c => by
      induction c with
      | refl _ => exact fun c hc ec => .inl (e.inj c i hc hi ec)
      | @step y z p ad hz ih =>
        intro c hc ec
        obtain ⟨q1, q2⟩ := hr.ok y p.right
        obtain ⟨j, hj, ej⟩ := sur y q1 q2
        rw [← ec, ← ej] at ad
        rcases ih j hj ej with z1 | z1
        · rw [z1] at ad
          exact .inr (.edge hi hc ad)
        · by_cases hji : j = i
          · rw [hji] at ad
            exact .inr (.edge hi hc ad)
          · have := hmax j hj (by rw [ej]; exact p.right)
            exact .inr (.step z1 (by omega) hc ad)
    have sub : ∀ v ∈ arnd n es S, v ∈ L i := fun v hv => by
      obtain ⟨v1, u, hu, ad⟩ := (mem_arnd h).mp hv
      have hvr : 0 ≤ v ∧ v < n := by unfold arnd at hv; exact mem_ptsOf.mp (List.mem_filter.mp hv).1
      obtain ⟨k, hk, rfl⟩ := sur v hvr.1 hvr.2
      have hik := hf i k hi hk hiS hv
      obtain ⟨q1, q2⟩ := hr.ok u hu
      obtain ⟨j, hj, rfl⟩ := sur u q1 q2
      have pth : Pth es o n.toNat i i k := by
        rcases path (o j) (hc (o i) hiS (o j) hu) j hj rfl with z | z
        · rw [z] at ad; exact .edge hi hk ad
        · by_cases hji : j = i
          · rw [hji] at ad; exact .edge hi hk ad
          · have := hmax j hj hu
            exact .step z (by omega) hk ad
      exact (e.reach i i k (by omega) (Nat.le_refl _) (by omega) pth).1 hik
    have hlen : ((arnd n es S).length : Int) < w := by
      have h1 := nodup_sub_len ((arnd_inc n es S).imp fun q => by omega) sub
      have h2 := hw i hi
      have h3 : (bagOf o L i).length = (L i).length + 1 := by unfold bagOf; rw [(srt_perm _).length_eq]; simp
      omega
    refine .mk (o i) hlen hiS fun C hC => ?_
    obtain ⟨c1, c2, c3, c4⟩ := comps_wo hr hiS C hC
    obtain ⟨d1, d2⟩ := comps_con C hC
    refine lay_of h e hw m C (by omega) c1 c3 d1 fun a b ha hb haC hbC => ?_
    obtain ⟨b1, u, hu, ad⟩ := (mem_arnd h).mp hbC
    have hCS : ∀ x ∈ C, x ∈ S := fun x hx => (List.mem_filter.mp (c4 x hx)).1
    by_cases hbS : o b ∈ S
    · have hbi : o b = o i := Classical.byContradiction fun z => b1 (d2 u hu (o b) (List.mem_filter.mpr ⟨hbS, by simp [z]⟩) ad)
      have hbi := e.inj b i hb hi hbi
      have hai := hmax a ha (hCS _ haC)
      have : a ≠ i := fun z => by
        rw [z] at haC
        have := (List.mem_filter.mp (c4 _ haC)).2
        simp at this
      omega
    · exact hf a b ha hb (hCS _ haC) ((mem_arnd h).mpr ⟨hbS, u, hCS u hu, ad⟩)
theorem layAll_of {o : Nat → Int} {L : Nat → List Int} {par : Nat → Nat} (h : Web n es) (e : Eli n.toNat es o L par) (hw : ∀ k, k < n.toNat → ((bagOf o L k).length : Int) ≤ w) : LayAll n es w := fun C hC => by
  obtain ⟨c1, c2, c3, c4⟩ := comps_mem (es := es) (pts_ris n) C hC
  obtain ⟨d1, d2⟩ := comps_con C hC
  refine lay_of h e hw C.length C (Nat.le_refl _) c1 c3 d1 fun a b ha hb haC hbC => ?_
  obtain ⟨b1, u, hu, ad⟩ := (mem_arnd h).mp hbC
  have hn : ((n.toNat : Nat) : Int) = n := by have := h.lo; omega
  have := e.rng b hb
  exact absurd (d2 u hu (o b) (mem_ptsOf.mpr (by omega)) ad) b1
end
end B

/-! NG: from a laying to an order; plain. -/
namespace B
open PySem PySem.Spec PyProof.Rows L2 DL
/-- each point has a small part around it among those ahead -/
def Quo (n : Int) (es : Ties) (w : Int) (S l : List Int) : Prop := ∀ pre x post, l = pre ++ x :: post → ∃ T : List Int, x ∈ T ∧ (∀ t ∈ T, t ∈ S ∧ (t = x ∨ t ∈ pre)) ∧ ((arnd n es T).length : Int) < w ∧ ∀ v ∈ arnd n es T, v ∉ pre
theorem split_app {α : Type} {a b pre post : List α} {x : α} (h : a ++ b = pre ++ x :: post) : (∃ p2, a = pre ++ x :: p2) ∨ ∃ p1, pre = a ++ p1 ∧ b = p1 ++ x :: post := by
  rcases List.append_eq_append_iff.mp h with ⟨c, e1, e2⟩ | ⟨c, e1, e2⟩
  · exact .inr ⟨c, e1, e2⟩
  · cases c with
    | nil =>
      rw [List.append_nil] at e1
      refine .inr ⟨[], by rw [e1]; simp, by rw [List.nil_append] at e2; rw [← e2]; rfl⟩
    | cons y r =>
      rw [List.cons_append] at e2
      injection e2 with e2 e3
      subst e2
      exact .inl ⟨r, e1⟩
section
variable {n w : Int} {es : Ties}
theorem cat_quo (h : Web n es) : ∀ (Cs : List (List Int)), (∀ C ∈ Cs, ∃ l : List Int, l.Perm C ∧ Quo n es w C l) → (Cs.Pairwise fun A C => ∀ a ∈ A, ∀ c ∈ C, a ≠ c ∧ ¬ Adj es a c) → ∃ l : List Int, l.Perm Cs.flatten ∧ Quo n es w Cs.flatten l
  | [], _, _ => ⟨[], by simp, fun pre x post e => by simp at e⟩
  | C :: r, hc, hp => by
    obtain ⟨q1, q2⟩ := List.pairwise_cons.mp hp
    obtain ⟨l1, p1, k1⟩ := hc C (by simp)
    obtain ⟨l2, p2, k2⟩ := cat_quo h r (fun C hC => hc C (by simp [hC])) q2
    refine ⟨l1 ++ l2, by rw [List.flatten_cons]; exact p1.append p2, fun pre x post e => ?_⟩
    rw [List.flatten_cons]
    rcases split_app e with ⟨s, e1⟩ | ⟨s, e1, e2⟩
    · obtain ⟨T, t1, t2, t3, t4⟩ := k1 pre x s e1
      exact ⟨T, t1, fun t ht => ⟨List.mem_append_left _ (t2 t ht).1, (t2 t ht).2⟩, t3, t4⟩
    · obtain ⟨T, t1, t2, t3, t4⟩ := k2 s x post e2
      refine ⟨T, t1, fun t ht => ⟨List.mem_append_right _ (t2 t ht).1, ?_⟩, t3, fun v hv hpre => ?_⟩
      · rcases (t2 t ht).2 with z | z
        · exact .inl z
        · exact .inr (by rw [e1]; simp [z])
      · rw [e1] at hpre
        rcases List.mem_append.mp hpre with z | z
        · obtain ⟨_, u, hu, ad⟩ := (mem_arnd h).mp hv
          obtain ⟨D, hD, huD⟩ := List.mem_flatten.mp (t2 u hu).1
          exact (q1 D hD v (p1.mem_iff.mp z) u huD).2 ad.symm
        · exact t4 v hv z
theorem lay_quo (h : Web n es) {S : List Int} (L : Lay n es w S) : Ris n S → ∃ l : List Int, l.Perm S ∧ Quo n es w S l := by
  induction L with
  | @mk S p h1 h2 _ ih =>
    intro hr
    have nd : (wo S p).Nodup := (ris_pts hr).nd.filter _
    obtain ⟨l, pl, kl⟩ := cat_quo (n := n) (w := w) h (comps es (wo S p)) (fun C hC => ih C hC (comps_wo hr h2 C hC).2.2.1) (comps_apart nd)
    have pl2 : l.Perm (wo S p) := pl.trans (comps_flat nd)
    have hsub : ∀ x ∈ (comps es (wo S p)).flatten, x ∈ S := fun x hx => (List.mem_filter.mp ((comps_flat nd).mem_iff.mp hx)).1
    have hperm : (l ++ [p]).Perm S := by
      refine (List.perm_ext_iff_of_nodup ?_ (ris_pts hr).nd).mpr fun x => ?_
      · refine List.nodup_append.mpr ⟨pl2.nodup_iff.mpr nd, by simp, fun x hx y hy z => ?_⟩
        simp at hy
        subst hy z
        have := (List.mem_filter.mp (pl2.mem_iff.mp hx)).2
        simp at this
      · rw [List.mem_append, pl2.mem_iff, List.mem_singleton]
        unfold wo
        rw [List.mem_filter]
        constructor
        · rintro (⟨a, _⟩ | a)
          · exact a
          · rw [a]; exact h2
        · intro a
          by_cases z : x = p
          · exact .inr z
          · exact .inl ⟨a, by simp [z]⟩
    refine ⟨l ++ [p], hperm, fun pre x post e => ?_⟩
    rcases split_app e with ⟨s, e1⟩ | ⟨s, e1, e2⟩
    · obtain ⟨T, t1, t2, t3, t4⟩ := kl pre x s e1
      exact ⟨T, t1, fun t ht => ⟨hsub t (t2 t ht).1, (t2 t ht).2⟩, t3, t4⟩
    · have hs : s = [] ∧ x = p := by
        cases s with
        | nil => simp at e2; exact ⟨rfl, e2.1.symm⟩
        | cons a b => have := congrArg List.length e2; simp at this
      obtain ⟨rfl, rfl⟩ := hs
      rw [List.append_nil] at e1
      subst e1
      refine ⟨S, h2, fun t ht => ⟨ht, ?_⟩, h1, fun v hv hl => ?_⟩
      · have := hperm.mem_iff.mpr ht
        rcases List.mem_append.mp this with z | z
        · exact .inr z
        · simp at z; exact .inl z
      · exact ((mem_arnd h).mp hv).1 (hsub v (pl.mem_iff.mp hl))
theorem order_of (h : Web n es) (hl : LayAll n es w) : ∃ o, Ord n.toNat o ∧ ∀ L par, Eli n.toNat es o L par → (∀ j m, j < n.toNat → m < n.toNat → o m ∈ L j → Pth es o n.toNat j j m) → ∀ k, k < n.toNat → ((bagOf o L k).length : Int) ≤ w := by
  have nd := ptsOf_nodup n
  obtain ⟨l, pl, kl⟩ := cat_quo (n := n) (w := w) h (comps es (ptsOf n)) (fun C hC => lay_quo h (hl C hC) (comps_mem (pts_ris n) C hC).2.2.1) (comps_apart nd)
  have pl2 := pl.trans (comps_flat nd)
  obtain ⟨o, ho, rfl⟩ := ord_of (by have := h.lo; omega) pl2
  refine ⟨o, ho, fun L par e hs k hk => ?_⟩
  have hdec : ordL n.toNat o = (ordL n.toNat o).take k ++ o k :: (ordL n.toNat o).drop (k + 1) := by
    have hkl : k < (ordL n.toNat o).length := by simpa [ordL] using hk
    have : (ordL n.toNat o)[k] = o k := by simp [ordL]
    rw [← this, ← List.drop_eq_getElem_cons hkl, List.take_append_drop]
  obtain ⟨T, t1, t2, t3, t4⟩ := kl _ _ _ hdec
  have mpre : ∀ j, j < n.toNat → (o j ∈ (ordL n.toNat o).take k ↔ j < k) := fun j hj => by
    unfold ordL
    rw [← List.map_take, List.mem_map]
    constructor
    · rintro ⟨i, hi, ei⟩
      rw [List.take_range] at hi
      have := List.mem_range.mp hi
      have := ho.inj i j (by omega) hj ei
      omega
    · intro z
      exact ⟨j, by rw [List.take_range]; exact List.mem_range.mpr (by omega), rfl⟩
  have go : ∀ m, Pth es o n.toNat k k m → o m ∈ T ∨ o m ∈ arnd n es T := fun m p => by
    have one : ∀ c m, o c ∈ T → Adj es (o c) (o m) → o m ∈ T ∨ o m ∈ arnd n es T := fun c m hc ad => by
      by_cases z : o m ∈ T
      · exact .inl z
      · exact .inr ((mem_arnd h).mpr ⟨z, o c, hc, ad⟩)
    induction p with
    | edge _ _ ad => exact one k _ t1 ad
    | @step c m p hc hm ad ih =>
      rcases ih with z | z
      · exact one c m z ad
      · exact absurd ((mpre c p.right).mpr hc) (t4 _ z)
  have sub : ∀ v ∈ L k, v ∈ arnd n es T := fun v hv => by
    obtain ⟨m, h1, h2, rfl⟩ := e.later k hk v hv
    rcases go m (hs k m hk h2 hv) with z | z
    · rcases (t2 _ z).2 with y | y
      · have := ho.inj m k h2 hk y; omega
      · have := (mpre m h2).mp y; omega
    · exact z
  have h1 := nodup_sub_len (e.ndL k hk) sub
  have h3 : (bagOf o L k).length = (L k).length + 1 := by unfold bagOf; rw [(srt_perm _).length_eq]; simp
  omega
end
end B

/-! NH: each order. -/
namespace B
open PySem PySem.Spec PyProof.Rows L2 DL
def leh : Nat → Int → List Int → List Int
  | 0, _, _ => []
  | m + 1, c, left => left.getD (c % (left.length : Int)).toNat 0 :: leh m (c / (left.length : Int)) (left.eraseIdx (c % (left.length : Int)).toNat)
def fct : Nat → Nat
  | 0 => 1
  | m + 1 => fct m * (m + 1)
theorem fct_pos : ∀ m, 1 ≤ fct m
  | 0 => Nat.le_refl _
  | m + 1 => by
    have := fct_pos m
    unfold fct
    exact Nat.le_trans this (Nat.le_mul_of_pos_right _ (Nat.succ_pos m))
theorem erase_perm {left : List Int} {k : Nat} (hk : k < left.length) : (left[k] :: left.eraseIdx k).Perm left := by
  have e0 : left.take k ++ left[k] :: left.drop (k + 1) = left := by rw [← List.drop_eq_getElem_cons hk, List.take_append_drop]
  rw [List.eraseIdx_eq_take_drop_succ]
  exact (List.perm_middle (l₁ := left.take k) (a := left[k]) (l₂ := left.drop (k + 1))).symm.trans (List.Perm.of_eq e0)
theorem leh_perm : ∀ (m : Nat) (c : Int) (left : List Int), left.length = m → (leh m c left).Perm left
  | 0, c, left, h => by
    have : left = [] := List.eq_nil_of_length_eq_zero h
    subst this
    exact List.Perm.refl _
  | m + 1, c, left, h => by
    have hm : (0 : Int) < left.length := by omega
    have h1 := Int.emod_nonneg c (show (left.length : Int) ≠ 0 by omega)
    have h2 := Int.emod_lt_of_pos c hm
    have hk : (c % (left.length : Int)).toNat < left.length := by omega
    have hl : (left.eraseIdx (c % (left.length : Int)).toNat).length = m := by rw [List.length_eraseIdx]; rw [if_pos hk]; omega
    have e : left.getD (c % (left.length : Int)).toNat 0 = left[(c % (left.length : Int)).toNat] := by
      rw [List.getD_eq_getElem?_getD, List.getElem?_eq_getElem hk]; rfl
    unfold leh
    rw [e]
    exact ((leh_perm m _ _ hl).cons _).trans (erase_perm hk)
theorem leh_onto : ∀ (m : Nat) (left : List Int), left.length = m → ∀ l : List Int, l.Perm left → ∃ c : Nat, c < fct m ∧ leh m c left = l
  | 0, left, h, l, hp => by
    have : left = [] := List.eq_nil_of_length_eq_zero h
    subst this
    have : l = [] := List.eq_nil_of_length_eq_zero (by rw [hp.length_eq]; rfl)
    exact ⟨0, by decide, by rw [this]; rfl⟩
  | m + 1, left, h, l, hp => by
    cases l with
    | nil => have := hp.length_eq; simp at this; omega
    | cons x r =>
      obtain ⟨k, hk, ek⟩ := List.mem_iff_getElem.mp (hp.mem_iff.mp (show x ∈ x :: r by simp))
      have hl : (left.eraseIdx k).length = m := by rw [List.length_eraseIdx]; rw [if_pos hk]; omega
      have hp2 : r.Perm (left.eraseIdx k) := by
        have := hp.trans (erase_perm hk).symm
        rw [ek] at this
        exact this.cons_inv
      obtain ⟨c, hc, ec⟩ := leh_onto m (left.eraseIdx k) hl r hp2
      refine ⟨k + left.length * c, ?_, ?_⟩
      · unfold fct
        rw [h] at hk ⊢
        have : (m + 1) * (c + 1) ≤ (m + 1) * fct m := Nat.mul_le_mul_left _ hc
        rw [Nat.mul_add, Nat.mul_one] at this
        rw [Nat.mul_comm (fct m)]
        omega
      · have hlp : 0 < left.length := by omega
        have e1 : (((k + left.length * c : Nat) : Int) % (left.length : Int)) = k := by
          rw [← Int.natCast_emod, Nat.add_mul_mod_self_left, Nat.mod_eq_of_lt hk]
        have e2 : (((k + left.length * c : Nat) : Int) / (left.length : Int)) = c := by
          rw [← Int.natCast_ediv, Nat.add_mul_div_left _ _ hlp, Nat.div_eq_of_lt hk, Nat.zero_add]
        unfold leh
        rw [e1, e2, Int.toNat_natCast, ec, List.getD_eq_getElem?_getD, List.getElem?_eq_getElem hk]
        simp [ek]
theorem each_eq {n c : Int} (h : 1 ≤ n ∧ n ≤ 10) : g_law_each_order [.int c, .int n] = .ok (encI (leh n.toNat c (ptsOf n))) := by
  unfold g_law_each_order; rw [runD_eq]; unfold m_law_each_order
  have hn : 0 ≤ n ∧ n ≤ 1000000 := by omega
  simp [List.replicate, hn, rng_pts]
  have hw := while_all (c := bBor [2] (tst (eOp dNe (eVar 2) (eLst aNil)))) (s := sSeq (sAppPop 3 2 (eOp dMod (eVar 0) (eBor [2] (eCB dLen (aCons (eVar 2) aNil))))) (sSet 0 (eOp dFdiv (eVar 0) (eOp dAdd (eBor [2] (eCB dLen (aCons (eVar 2) aNil))) (eC (.int 1))))))
    (fun m Γ => ∃ (c' : Int) (left made : List Int), made ++ leh m c' left = leh n.toNat c (ptsOf n) ∧ left.length = m ∧ made.length + m = n.toNat ∧ Γ = [.sh (.int c'), .sh (.int n), .ol (left.map D.int), .ol (made.map D.int)]) (by
    rintro m Γ ⟨c', left, made, hp, hl, hml, rfl⟩
    have hne : dNe (.lst (left.map D.int)) (.lst []) = some (.bl (!decide (left = []))) := dNe_L left []
    by_cases e : left = []
    · exact .inl (by simp [hne, e]; subst e; rfl)
    · refine .inr ⟨by simp [hne, e], ?_⟩
      have hl0 : 0 < left.length := List.length_pos_iff.mpr e
      obtain ⟨k, hk⟩ : ∃ k : Nat, c' % (left.length : Int) = k := ⟨(c' % (left.length : Int)).toNat, by have := Int.emod_nonneg c' (show (left.length : Int) ≠ 0 by omega); omega⟩
      have hkl : k < left.length := by have := Int.emod_lt_of_pos c' (show (0 : Int) < left.length by omega); omega
      have hat : (left.map D.int)[k]? = some (.int left[k]) := by rw [List.getElem?_map, List.getElem?_eq_getElem hkl]; rfl
      have hap := appPop_at (x0 := .sh (.int c')) (x1 := .sh (.int n)) (es := left.map D.int) (ds := made.map D.int) (k := k) (f := eOp dMod (eVar 0) (eBor [2] (eCB dLen (aCons (eVar 2) aNil)))) (by simp [hl0, hk]) (by simp; omega) (by simpa using hkl) (by simp; omega) hat
      have her : (left.map D.int).eraseIdx k = (left.eraseIdx k).map D.int := by rw [List.eraseIdx_eq_take_drop_succ, List.eraseIdx_eq_take_drop_succ]; simp
      have hel : (left.eraseIdx k).length = left.length - 1 := by rw [List.length_eraseIdx]; simp [hkl]
      have hp1 : (0 : Int) < ((left.eraseIdx k).length : Int) + 1 := by omega
      have hp2 : ((left.eraseIdx k).length : Int) + 1 < 18446744073709551616 := by omega
      rw [her] at hap
      refine ⟨[.sh (.int (c' / (((left.eraseIdx k).length : Int) + 1))), .sh (.int n), .ol ((left.eraseIdx k).map D.int), .ol ((made ++ [left[k]]).map D.int)], m - 1, by omega, .inl ?_, _, left.eraseIdx k, made ++ [left[k]], ?_, by omega, by simp; omega, rfl⟩
      · simp [hap, hp1, hp2]
      · obtain ⟨m', rfl⟩ : ∃ m', m = m' + 1 := ⟨m - 1, by omega⟩
        rw [← hp]
        have e1 : ((left.eraseIdx k).length : Int) + 1 = (left.length : Int) := by omega
        conv => rhs; unfold leh
        rw [hk, Int.toNat_natCast, e1, List.getD_eq_getElem?_getD, List.getElem?_eq_getElem hkl]
        simp)
  obtain ⟨Γ', m', e1, ⟨c', left, made, hp, hl, hml, rfl⟩, hc⟩ := hw n.toNat 1000000 [.sh (.int c), .sh (.int n), .ol ((ptsOf n).map D.int), .ol []] (by omega) ⟨c, ptsOf n, [], by simp, by simp [ptsOf], by simp, rfl⟩
  have hne : dNe (.lst (left.map D.int)) (.lst []) = some (.bl (!decide (left = []))) := dNe_L left []
  have hl0 : left = [] := by
    simp [hne] at hc
    exact hc
  subst hl0
  have hm0 : m' = 0 := by simpa using hl.symm
  subst hm0
  rw [e1]
  have : leh 0 c' [] = [] := rfl
  rw [this, List.append_nil] at hp
  simp [hp]
end B

/-! L07: the law k07, plain. -/
namespace B
open PySem PySem.Spec PyProof.Rows L2 DL
theorem Lay.mono {n w w' : Int} {es : Ties} (hw : w ≤ w') {S : List Int} (h : Lay n es w S) : Lay n es w' S := by
  induction h with
  | mk p h1 h2 _ ih => exact .mk p (by omega) h2 ih
theorem LayAll.mono {n w w' : Int} {es : Ties} (hw : w ≤ w') (h : LayAll n es w) : LayAll n es w' := fun C hC => (h C hC).mono hw
theorem bag_le {N : Nat} {es : Ties} {o : Nat → Int} {L : Nat → List Int} {par : Nat → Nat} (e : Eli N es o L par) {k : Nat} (hk : k < N) : (bagOf o L k).length ≤ N := by
  have h1 := e.bagI hk
  have h2 := nodup_sub_len (ys := ptsOf N) ((bagI_inc h1).imp fun q => by omega) fun x hx => mem_ptsOf.mpr (bagI_rng h1 x hx)
  simpa [ptsOf] using h2
/-- the due width so far -/
structure Due (n : Int) (es : Ties) (pre : List Int) (d : Int) : Prop where
  lo : 1 ≤ d
  hi : d ≤ n
  ok : LayAll n es d
  le : ∀ c ∈ pre, ∀ o, Ord n.toNat o → ordL n.toNat o = leh n.toNat c (ptsOf n) → ∃ L par, Eli n.toNat es o L par ∧ (∀ j m, j < n.toNat → m < n.toNat → o m ∈ L j → Pth es o n.toNat j j m) ∧ ∃ k, k < n.toNat ∧ d ≤ (bagOf o L k).length
def Tur (k : Nat) (t : Int) : Prop := t = (fct k : Int)
theorem tur0 : Tur 0 1 := rfl
theorem tur_next {k : Nat} {t : Int} (hk : k < 5) (h : Tur k t) : dMul (.int t) (.int ((k : Int) + 1)) = some (.int (t * ((k : Int) + 1))) ∧ Tur (k + 1) (t * ((k : Int) + 1)) := by
  unfold Tur at *
  have hb : ∀ k ∈ List.range 5, fct k ≤ 24 := by decide
  have hb := hb k (List.mem_range.mpr hk)
  have e : ((fct (k + 1) : Nat) : Int) = (fct k : Int) * ((k : Int) + 1) := by
    rw [show fct (k + 1) = fct k * (k + 1) from rfl, Int.natCast_mul, Int.natCast_succ]
  refine ⟨?_, by rw [h, e]⟩
  rw [dMul_ii, if_pos]
  left
  omega
theorem law_k07 (ns : List Int) : g_law_k07 [.scr ns] = .ok (.bl true) := by
  classical
  unfold g_law_k07
  simp only [runD_eq]; unfold m_law_k07
  have hc0 := g_law_cell_at_eq ns 0
  have hc1 := g_law_cell_at_eq ns 1
  simp at hc0 hc1
  obtain ⟨n, hn⟩ : ∃ n, n = 1 + cellAt ns 0 % 5 := ⟨_, rfl⟩
  have hn1 : 1 ≤ n ∧ n ≤ 5 := by omega
  obtain ⟨hi, hhi⟩ : ∃ hi, hi = 2 + cellAt ns 1 % 11 := ⟨_, rfl⟩
  have hhi2 : 2 ≤ hi ∧ hi ≤ 12 := by omega
  obtain ⟨hk, rfl⟩ : ∃ k : Nat, hi = k := ⟨hi.toNat, by omega⟩
  obtain ⟨cs, hcs⟩ : ∃ cs, cs = DL.cutD ns (some 2) (some (hk : Int)) := ⟨_, rfl⟩
  have hcl : cs.length ≤ 10 := by rw [hcs]; have := cutD_len ns 2 hk; simp at this; omega
  have hw : Web n (tiesOf cs n) := web_of (by omega) (by omega) (by omega)
  have ht := g_law_ties_eq (cs := cs) (n := n) (by omega) (by omega) (by omega)
  have hel : (tiesOf cs n).length ≤ 18 := by
    have := foldl_tie_len n cs []
    simp at this
    unfold tiesOf; omega
  generalize hes : tiesOf cs n = es at hw ht hel
  have hnn : ((n.toNat : Nat) : Int) = n := by omega
  have hnl : (ptsOf n).length = n.toNat := by simp [ptsOf]
  have hnr : n ≤ 1000000 ∧ -1000000 ≤ n := by omega
  simp [List.replicate, hc0, hc1, ← hn, ← hhi, cutD_map, ← hcs, ht, hnr, rng_pts]
  -- so many turns
  refine loopR D.int (fun pre Γ => ∃ t x5, Tur pre.length t ∧ Γ = [.sh (.scr ns), .sh (.int n), .sh (encT es), .sh (.int n), .sh (.int t), x5, .no, .no, .no, .no, .no]) (ptsOf n) ⟨1, _, tur0, rfl⟩ ?_ ?_
  · rintro pre x post Γ hp ⟨t, x5, htur, rfl⟩
    obtain ⟨rfl, hkk⟩ := pts_split hp
    have h5 : pre.length < 5 := by omega
    obtain ⟨hml, ht2⟩ := tur_next h5 htur
    have hsc : (pre ++ [(pre.length : Int)]).length = pre.length + 1 := by simp
    rw [hsc]
    generalize pre.length = k at hml ht2
    generalize t * ((k : Int) + 1) = t2 at hml ht2
    simp [hml, -dMul_ii]
    exact ht2
  rintro Γ ⟨t0, x5, htur, rfl⟩
  rw [hnl] at htur
  have htur : t0 = (fct n.toNat : Int) := htur
  subst htur
  have hf120 : fct n.toNat ≤ 120 := by
    have : ∀ k ∈ List.range 6, fct k ≤ 120 := by decide
    exact this n.toNat (List.mem_range.mpr (by omega))
  have hfr : (fct n.toNat : Int) ≤ 1000000 ∧ -1000000 ≤ (fct n.toNat : Int) := by omega
  have hfg : rng 0 (fct n.toNat) = (ptsOf (fct n.toNat : Int)).map D.int := by have := rng_pts (fct n.toNat : Int); rwa [Int.toNat_natCast] at this
  have lay0 : LayAll n es n := by
    obtain ⟨o, ho, _⟩ := ord_of (n := n) (ord := ptsOf n) (by omega) (List.Perm.refl _)
    obtain ⟨L, par, hE, _, _⟩ := laid_ex2 hw hel ho
    exact layAll_of hw hE fun k hk => by have := bag_le hE hk; omega
  simp [hfr, hfg]
  refine loopR D.int (fun pre Γ => ∃ d x6 x7, Due n es pre d ∧ Γ = [.sh (.scr ns), .sh (.int n), .sh (encT es), .sh (.int d), .sh (.int (fct n.toNat)), x5, x6, x7, .no, .no, .no]) (ptsOf (fct n.toNat : Int)) ⟨n, _, _, ⟨by omega, Int.le_refl _, lay0, by simp⟩, rfl⟩ ?_ ?_
  · rintro pre c post Γ hp ⟨d, x6, x7, hd, rfl⟩
    have hec := each_eq (n := n) (c := c) ⟨by omega, by omega⟩
    obtain ⟨o, ho, eo⟩ := ord_of (n := n) (by omega) (leh_perm n.toNat c (ptsOf n) hnl)
    obtain ⟨L, par, hE, hS, hl⟩ := laid_ex2 hw hel ho
    rw [eo] at hec
    have hbl : (bagsOf n.toNat o L).length ≤ 1000000 := by simp [bagsOf]; omega
    have hcm := fun x6 x7 => compF_all (i := 8) (f := eCB dLen (aCons (eVar 8) aNil)) (Γ := [.sh (.scr ns), .sh (.int n), .sh (encT es), .sh (.int d), .sh (.int (fct n.toNat)), x5, x6, x7, .no, .no, .no]) encI D.int (fun r => (r.length : Int)) (bagsOf n.toNat o L) (fun r _ => by simp)
    obtain ⟨M, hM⟩ : ∃ M, M = (bagsOf n.toNat o L).map fun r => (r.length : Int) := ⟨_, rfl⟩
    have hMne : M ≠ [] := fun z => by
      rw [z] at hM
      have := congrArg List.length hM
      simp [bagsOf] at this; omega
    rw [← hM] at hcm
    have hmx := dMaxL_i M
    rw [if_neg hMne] at hmx
    obtain ⟨m1, m2⟩ := maxL_spec hMne
    simp [hec, hl, hbl, hcm, hmx, -dMaxL_i, -List.map_map]
    have hbags : ∀ y, y ∈ M ↔ ∃ k, k < n.toNat ∧ y = ((bagOf o L k).length : Int) := fun y => by
      rw [hM, List.mem_map]
      constructor
      · rintro ⟨r, hr, rfl⟩
        obtain ⟨k, hk, rfl⟩ := List.mem_map.mp hr
        exact ⟨k, List.mem_range.mp hk, rfl⟩
      · rintro ⟨k, hk, rfl⟩
        exact ⟨_, List.mem_map.mpr ⟨k, List.mem_range.mpr hk, rfl⟩, rfl⟩
    obtain ⟨k0, hk0, ek0⟩ := (hbags _).mp m1
    have hb0 : 1 ≤ maxL M := by
      rw [ek0]
      have : (bagOf o L k0).length = (L k0).length + 1 := by unfold bagOf; rw [(srt_perm _).length_eq]; simp
      omega
    have hlay : LayAll n es (maxL M) := layAll_of hw hE fun k hk => m2 _ ((hbags _).mpr ⟨k, hk, rfl⟩)
    have hlo := hd.lo
    have hhi := hd.hi
    have hok2 : LayAll n es (if maxL M < d then maxL M else d) := by
      by_cases z : maxL M < d
      · rw [if_pos z]; exact hlay
      · rw [if_neg z]; exact hd.ok
    refine ⟨by split <;> omega, by split <;> omega, hok2, fun c' hc' o' ho' eo' => ?_⟩
    rcases List.mem_append.mp hc' with z | z
    · obtain ⟨L', par', e1, e2, k, hk, hle⟩ := hd.le c' z o' ho' eo'
      exact ⟨L', par', e1, e2, k, hk, by split <;> omega⟩
    · simp at z
      subst z
      have hoo : ∀ i, i < n.toNat → o' i = o i := fun i hi => by
        rw [eo] at eo'
        have := congrArg (fun l => l[i]?) eo'
        simpa [ordL, hi] using this
      have hco : o' = fun i => if i < n.toNat then o i else o' i := by
        funext i
        by_cases q : i < n.toNat
        · rw [if_pos q, hoo i q]
        · rw [if_neg q]
      obtain ⟨L', par', e1, e2, e3⟩ := laid_ex2 hw hel ho'
      rw [eo', eo] at e3
      rw [hl] at e3
      injection e3 with e3
      injection e3 with e3
      injection e3 with e3 _
      have e3 := map_encI_inj (D.lst.inj e3)
      have hkk : bagOf o L k0 = bagOf o' L' k0 := by
        have := congrArg (fun l => l[k0]?) e3
        simpa [bagsOf, hk0] using this
      exact ⟨L', par', e1, e2, k0, hk0, by rw [← hkk, ← ek0]; split <;> omega⟩
  rintro Γ ⟨d, x6, x7, hd, rfl⟩
  have hmin : ∀ w, LayAll n es w → d ≤ w := fun w hl => by
    obtain ⟨o, ho, ho2⟩ := order_of hw hl
    have hperm : (ordL n.toNat o).Perm (ptsOf n) := by
      refine (List.perm_ext_iff_of_nodup ?_ (ptsOf_nodup n)).mpr fun x => ?_
      · unfold ordL
        refine List.pairwise_map.mpr (List.Pairwise.imp_of_mem (R := fun a b => a < b) (fun ha hb hab z => ?_) List.pairwise_lt_range)
        have := ho.inj _ _ (List.mem_range.mp ha) (List.mem_range.mp hb) z
        omega
      · rw [mem_ptsOf]
        unfold ordL
        rw [List.mem_map]
        constructor
        · rintro ⟨i, hi, rfl⟩
          have := ho.rng i (List.mem_range.mp hi)
          omega
        · rintro ⟨q1, q2⟩
          obtain ⟨i, hi, e⟩ := ho.sur q1 (by omega)
          exact ⟨i, List.mem_range.mpr hi, e⟩
    obtain ⟨c, hc, ec⟩ := leh_onto n.toNat (ptsOf n) hnl _ hperm
    obtain ⟨L, par, e1, e2, k, hk, hle⟩ := hd.le c (mem_ptsOf.mpr (by omega)) o ho ec.symm
    have := ho2 L par e1 e2 k hk
    omega
  obtain ⟨s, es1, s1, s2, s3, s4⟩ := least_ex hw
  have hsd : s = d := by
    have h1 := hd.lo
    have h2 := hd.hi
    by_cases q : s < n
    · have := hmin s (s4 q)
      by_cases z : d < s
      · exact absurd hd.ok (s3 d h1 z)
      · omega
    · by_cases z : d < s
      · exact absurd hd.ok (s3 d h1 z)
      · omega
  subst hsd
  have hrg : rng 1 n.toNat = (ptsFrom 1 (n + 1)).map D.int := by rw [← rng_from 1 (n + 1)]; congr 1; omega
  have hn4 : n + 1 ≤ 1000000 ∧ -1000000 ≤ n + 1 := by omega
  have hcm := compF_all (i := 10) (f := eOp dEq (eOp dIsNot (eCall g_layout (aCons (eVar 1) (aCons (eL (fCB dList (aCons (eVar 2) aNil))) (aCons (eVar 10) aNil)))) (eC .non)) (eOp dGe (eVar 10) (eVar 3))) (Γ := [.sh (.scr ns), .sh (.int n), .sh (encT es), .sh (.int s), .sh (.int (fct n.toNat)), x5, x6, x7, .no, .sh (.int s), .no]) D.int D.bl (fun _ => true) (ptsFrom 1 (n + 1)) (fun k hk => by
    obtain ⟨q1, q2⟩ := mem_from.mp hk
    obtain ⟨dd, e, f1, f2⟩ := layout_ex (w := k) hw q1 (by omega)
    by_cases hl : LayAll n es k
    · have h1 := f1 hl
      have h2 := hmin k hl
      have h3 : k ≥ s := h2
      simp [e, h1, h3]
    · have h1 := f2 hl
      subst h1
      have h3 : ¬ k ≥ s := fun z => hl (hd.ok.mono z)
      simp [e, DL.isNon, h3])
  have hpl : (ptsFrom 1 (n + 1)).length ≤ 1000000 := by simp [ptsFrom]; omega
  simp [es1, hn4, hrg, hpl, hcm, -List.map_map]
end B

namespace B
open PySem PySem.Spec PyProof.Rows L2 DL
def topS (i : Nat) : Stmt := PySem.Challenge.pw_bagtree_k07_least_by_all_orders.main.body.getD i (.Pass ⟨0, 0, 0, 0⟩)
abbrev s_is_whole : Stmt := topS 6
abbrev s_is_tie : Stmt := topS 7
abbrev s_need_web : Stmt := topS 8
abbrev s_near_of : Stmt := topS 9
abbrev s_parts_among : Stmt := topS 10
abbrev s_need_most : Stmt := topS 12
abbrev s_around : Stmt := topS 13
abbrev s_without : Stmt := topS 14
abbrev s_first_of : Stmt := topS 15
abbrev s_laid : Stmt := topS 16
abbrev s_layout : Stmt := topS 17
abbrev s_least : Stmt := topS 18
abbrev s_law_spread : Stmt := topS 20
abbrev s_law_cell_at : Stmt := topS 21
abbrev s_law_whole : Stmt := topS 22
abbrev s_law_tie : Stmt := topS 23
abbrev s_law_ties : Stmt := topS 24
abbrev s_law_laid_by : Stmt := topS 26
abbrev s_law_each_order : Stmt := topS 27
abbrev s_law : Stmt := topS 28
structure Tx (K : Fr) (mg : Str → Option Value) (ca : Str → Addr) (a : Nat → Addr) (fd : Nat → FuncData) : Prop where
  f_is_whole : Fun K "is_whole" "is_whole" s_is_whole (a 0) (fd 0)
  b_is_whole : Binds K (fd 0) ["thing"] []
  g_is_whole : mg "is_whole" = some (.ref (a 0))
  f_is_tie : Fun K "is_tie" "is_tie" s_is_tie (a 1) (fd 1)
  b_is_tie : Binds K (fd 1) ["thing", "many"] []
  g_is_tie : mg "is_tie" = some (.ref (a 1))
  f_need_web : Fun K "need_web" "need_web" s_need_web (a 2) (fd 2)
  b_need_web : Binds K (fd 2) ["many", "ties"] []
  g_need_web : mg "need_web" = some (.ref (a 2))
  f_near_of : Fun K "near_of" "near_of" s_near_of (a 3) (fd 3)
  b_near_of : Binds K (fd 3) ["many", "ties"] []
  g_near_of : mg "near_of" = some (.ref (a 3))
  f_parts_among : Fun K "parts_among" "parts_among" s_parts_among (a 4) (fd 4)
  b_parts_among : Binds K (fd 4) ["near", "points"] []
  g_parts_among : mg "parts_among" = some (.ref (a 4))
  f_need_most : Fun K "need_most" "need_most" s_need_most (a 5) (fd 5)
  b_need_most : Binds K (fd 5) ["many", "ties", "most"] []
  g_need_most : mg "need_most" = some (.ref (a 5))
  f_around : Fun K "around" "around" s_around (a 6) (fd 6)
  b_around : Binds K (fd 6) ["near", "part"] []
  g_around : mg "around" = some (.ref (a 6))
  f_without : Fun K "without" "without" s_without (a 7) (fd 7)
  b_without : Binds K (fd 7) ["part", "point"] []
  g_without : mg "without" = some (.ref (a 7))
  f_first_of : Fun K "first_of" "first_of" s_first_of (a 8) (fd 8)
  b_first_of : Binds K (fd 8) ["near", "part", "most", "known"] []
  g_first_of : mg "first_of" = some (.ref (a 8))
  f_laid : Fun K "laid" "laid" s_laid (a 9) (fd 9)
  b_laid : Binds K (fd 9) ["near", "parts", "known"] []
  g_laid : mg "laid" = some (.ref (a 9))
  f_layout : Fun K "layout" "layout" s_layout (a 10) (fd 10)
  b_layout : Binds K (fd 10) ["many", "ties", "most"] []
  g_layout : mg "layout" = some (.ref (a 10))
  f_least : Fun K "least" "least" s_least (a 11) (fd 11)
  b_least : Binds K (fd 11) ["many", "ties"] []
  g_least : mg "least" = some (.ref (a 11))
  f_law_spread : Fun K "_law_spread" "_law_spread" s_law_spread (a 12) (fd 12)
  b_law_spread : Binds K (fd 12) ["_law_cell"] []
  g_law_spread : mg "_law_spread" = some (.ref (a 12))
  f_law_cell_at : Fun K "_law_cell_at" "_law_cell_at" s_law_cell_at (a 13) (fd 13)
  b_law_cell_at : Binds K (fd 13) ["_law_script", "_law_k"] []
  g_law_cell_at : mg "_law_cell_at" = some (.ref (a 13))
  f_law_whole : Fun K "_law_whole" "_law_whole" s_law_whole (a 14) (fd 14)
  b_law_whole : Binds K (fd 14) ["_law_seen"] []
  g_law_whole : mg "_law_whole" = some (.ref (a 14))
  f_law_tie : Fun K "_law_tie" "_law_tie" s_law_tie (a 15) (fd 15)
  b_law_tie : Binds K (fd 15) ["_law_cell", "_law_many"] []
  g_law_tie : mg "_law_tie" = some (.ref (a 15))
  f_law_ties : Fun K "_law_ties" "_law_ties" s_law_ties (a 16) (fd 16)
  b_law_ties : Binds K (fd 16) ["_law_cells", "_law_many"] []
  g_law_ties : mg "_law_ties" = some (.ref (a 16))
  f_law_laid_by : Fun K "_law_laid_by" "_law_laid_by" s_law_laid_by (a 18) (fd 18)
  b_law_laid_by : Binds K (fd 18) ["_law_many", "_law_ties_here", "_law_order"] []
  g_law_laid_by : mg "_law_laid_by" = some (.ref (a 18))
  f_law_each_order : Fun K "_law_each_order" "_law_each_order" s_law_each_order (a 19) (fd 19)
  b_law_each_order : Binds K (fd 19) ["_law_number", "_law_many"] []
  g_law_each_order : mg "_law_each_order" = some (.ref (a 19))
  f_law : Fun K "law" "law" s_law (a 20) (fd 20)
  b_law : Binds K (fd 20) ["_law_script"] []
  g_law : mg "law" = some (.ref (a 20))
  z_all : mg "all" = none
  z_bool : mg "bool" = none
  z_int : mg "int" = none
  z_isinstance : mg "isinstance" = none
  z_len : mg "len" = none
  z_list : mg "list" = none
  z_max : mg "max" = none
  z_min : mg "min" = none
  z_range : mg "range" = none
  z_set : mg "set" = none
  z_sorted : mg "sorted" = none
  z_tuple : mg "tuple" = none
  c_MOST_POINTS : ∃ t, mg "MOST_POINTS" = some (.int 10 t)
abbrev N_is_whole : List Str := ["thing"]
theorem sc_is_whole : FnScope N_is_whole ["thing"] (defScope s_is_whole) := ⟨rfl, rfl, rfl, by decide +kernel, rfl, by decide +kernel, by decide +kernel⟩
theorem ok_is_whole {P : Program} {w : World} {K : Fr} {mg : Str → Option Value} {base : Heap} {ca : Str → Addr} {a : Nat → Addr} {fd : Nat → FuncData} (T : Tx K mg ca a fd) : FnOk P w K mg base CX0 1 (a 0) (fd 0) ["thing"] (spD K ca false 1 g_is_whole) :=
  fn_ok T.f_is_whole sc_is_whole rfl fun cdv A outer s H E hr => (svs_one (sv_ret (ev_and (ev_isi (T' := "int") (by decide) rfl T.z_isinstance (ev_var (pv 0)) (pe_bltn rfl T.z_int (by decide +kernel) rfl)) (ev_one (ev_not (ev_isi (T' := "bool") (by decide) rfl T.z_isinstance (ev_var (pv 0)) (pe_bltn rfl T.z_bool (by decide +kernel) rfl)))))))
abbrev N_near_of : List Str := ["many", "ties", "found", "point", "tie", "row"]
theorem sc_near_of : FnScope N_near_of ["many", "ties"] (defScope s_near_of) := ⟨rfl, rfl, rfl, by decide +kernel, rfl, by decide +kernel, by decide +kernel⟩
theorem okO_near_of {P : Program} {w : World} {K : Fr} {mg : Str → Option Value} {base : Heap} {ca : Str → Addr} {a : Nat → Addr} {fd : Nat → FuncData} (T : Tx K mg ca a fd) : FnOk P w K mg base CX0 1 (a 3) (fd 3) ["many", "ties"] (spO K 2 gO_near_of) :=
  let _ := ca; fn_okO T.f_near_of sc_near_of rfl fun cdv A outer s H E hr => (svs_cons (⟨PS.imp (ps_setLc (i := 2) rfl sc_near_of.nd rfl rfl (sw_true rfl rfl rfl (by decide +kernel)) (IV.pi (iv_rg1 rfl T.z_range (av_cons (ev_var (pv 0)) av_nil))) (blkOk_by (own := [("point", 3)]) (N := N_near_of) (sc := defScope s_near_of) (by decide +kernel)) (fun _ _ _ _ _ => GV.pg (gv_name (pg_name (i := 3) sc_near_of.nd rfl (Or.inl rfl)))) (fun _ _ _ _ _ => TsV.pt tsv_nil) (fun _ _ _ _ _ => pe_lst pa_nil)) fun _ _ _ q => tRows_of (by decide) q⟩) (svs_cons (sv_for PassesOwn.never rfl (iv_list (FV.ev (fv_callB cr_sortedA sorted_rf rfl T.z_sorted (by decide +kernel) (av_cons (ev_var (pv 1)) av_nil)))) (gv_name (pg_name (i := 4) sc_near_of.nd rfl (by first | exact Or.inl rfl | exact Or.inr rfl))) (svs_cons (sv_rowApp (pv 2) (ev_ix (ev_var (pv 4)) ev_int) (ev_ix (ev_var (pv 4)) ev_int) (fun _ _ hi he => ps_expr (pe_bm PySem.F.plainAttrs_list PySem.F.slot_list_append PySem.F.type_list_append mt_append (pe_ix ix_list (pv 2) hi (fun _ _ => rfl)) (pa_cons he pa_nil)))) (svs_one (sv_rowApp (pv 2) (ev_ix (ev_var (pv 4)) ev_int) (ev_ix (ev_var (pv 4)) ev_int) (fun _ _ hi he => ps_expr (pe_bm PySem.F.plainAttrs_list PySem.F.slot_list_append PySem.F.type_list_append mt_append (pe_ix ix_list (pv 2) hi (fun _ _ => rfl)) (pa_cons he pa_nil))))))) (svs_one (sv_frz [2] (sv_retOw (owv_lc (own := [("row", 5)]) rfl sc_near_of.nd (iv_list (ev_var (pv 2))) (blkOk_by (own := [("row", 5)]) (N := N_near_of) (by kernel_rfl)) (fun _ _ _ _ _ => (gv_name (pg_name (i := 5) sc_near_of.nd rfl (by first | exact Or.inl rfl | exact Or.inr rfl)))) (fun _ _ _ _ _ => tsv_nil) (fun _ _ _ _ _ => (fv_callB cr_sortedA sorted_rf rfl T.z_sorted (by decide +kernel) (av_cons (ev_var (pv 5)) av_nil)))))))))
theorem ok_near_of {P : Program} {w : World} {K : Fr} {mg : Str → Option Value} {base : Heap} {ca : Str → Addr} {a : Nat → Addr} {fd : Nat → FuncData} (T : Tx K mg ca a fd) : FnOk P w K mg base CX0 1 (a 3) (fd 3) ["many", "ties"] (spD K ca false 2 g_near_of) :=
  fn_ok T.f_near_of sc_near_of rfl fun cdv A outer s H E hr => (svs_cons (⟨PS.imp (ps_setLc (i := 2) rfl sc_near_of.nd rfl rfl (sw_true rfl rfl rfl (by decide +kernel)) (IV.pi (iv_rg1 rfl T.z_range (av_cons (ev_var (pv 0)) av_nil))) (blkOk_by (own := [("point", 3)]) (N := N_near_of) (sc := defScope s_near_of) (by decide +kernel)) (fun _ _ _ _ _ => GV.pg (gv_name (pg_name (i := 3) sc_near_of.nd rfl (Or.inl rfl)))) (fun _ _ _ _ _ => TsV.pt tsv_nil) (fun _ _ _ _ _ => pe_lst pa_nil)) fun _ _ _ q => tRows_of (by decide) q⟩) (svs_cons (sv_for PassesOwn.never rfl (iv_list (FV.ev (fv_callB cr_sortedA sorted_rf rfl T.z_sorted (by decide +kernel) (av_cons (ev_var (pv 1)) av_nil)))) (gv_name (pg_name (i := 4) sc_near_of.nd rfl (by first | exact Or.inl rfl | exact Or.inr rfl))) (svs_cons (sv_rowApp (pv 2) (ev_ix (ev_var (pv 4)) ev_int) (ev_ix (ev_var (pv 4)) ev_int) (fun _ _ hi he => ps_expr (pe_bm PySem.F.plainAttrs_list PySem.F.slot_list_append PySem.F.type_list_append mt_append (pe_ix ix_list (pv 2) hi (fun _ _ => rfl)) (pa_cons he pa_nil)))) (svs_one (sv_rowApp (pv 2) (ev_ix (ev_var (pv 4)) ev_int) (ev_ix (ev_var (pv 4)) ev_int) (fun _ _ hi he => ps_expr (pe_bm PySem.F.plainAttrs_list PySem.F.slot_list_append PySem.F.type_list_append mt_append (pe_ix ix_list (pv 2) hi (fun _ _ => rfl)) (pa_cons he pa_nil))))))) (svs_one (sv_frz [2] (sv_retOw (owv_lc (own := [("row", 5)]) rfl sc_near_of.nd (iv_list (ev_var (pv 2))) (blkOk_by (own := [("row", 5)]) (N := N_near_of) (by kernel_rfl)) (fun _ _ _ _ _ => (gv_name (pg_name (i := 5) sc_near_of.nd rfl (by first | exact Or.inl rfl | exact Or.inr rfl)))) (fun _ _ _ _ _ => tsv_nil) (fun _ _ _ _ _ => (fv_callB cr_sortedA sorted_rf rfl T.z_sorted (by decide +kernel) (av_cons (ev_var (pv 5)) av_nil)))))))))
abbrev N_parts_among : List Str := ["near", "points", "found", "met", "point", "piece", "at", "other"]
theorem sc_parts_among : FnScope N_parts_among ["near", "points"] (defScope s_parts_among) := ⟨rfl, rfl, rfl, by decide +kernel, rfl, by decide +kernel, by decide +kernel⟩
theorem okO_parts_among {P : Program} {w : World} {K : Fr} {mg : Str → Option Value} {base : Heap} {ca : Str → Addr} {a : Nat → Addr} {fd : Nat → FuncData} (T : Tx K mg ca a fd) : FnOk P w K mg base CX0 1 (a 4) (fd 4) ["near", "points"] (spO K 2 gO_parts_among) :=
  let _ := ca; fn_okO T.f_parts_among sc_parts_among rfl fun cdv A outer s H E hr => (svs_cons (sv_newO (i := 2) sc_parts_among.nd rfl (Or.inl rfl)) (svs_cons (sv_newK (i := 3) sc_parts_among.nd rfl (Or.inl rfl)) (svs_cons (sv_for PassesOwn.never rfl (iv_list (FV.ev (fv_callB cr_sortedA sorted_rf rfl T.z_sorted (by decide +kernel) (av_cons (ev_var (pv 1)) av_nil)))) (gv_name (pg_name (i := 4) sc_parts_among.nd rfl (by first | exact Or.inl rfl | exact Or.inr rfl))) (svs_one (sv_if (tv_dnin (hu_of hr) (ev_var (pv 4)) (pv 3)) (svs_cons (sv_dput (hu_of hr) (pv 3) (ev_var (pv 4)) ev_bl) (svs_cons (sv_own (i := 5) sc_parts_among.nd rfl (Or.inl rfl) (fv_lst (av_cons (ev_var (pv 4)) av_nil))) (svs_cons (sv_set (i := 6) sc_parts_among.nd rfl (Or.inl rfl) ev_int) (svs_cons (sv_while (fun _ => 1000000) PassesOwn.never (tv_cmp op_lt lt_r2 (ev_var (pv 6)) (ev_bor [5] (ev_callB call_len_seq len_rl rfl T.z_len boot_len (av_cons (ev_var (pv 5)) av_nil))) (nomark _)) (svs_cons (sv_for PassesOwn.never rfl (iv_list (ev_ix (ev_var (pv 0)) (ev_oix (pv 5) (ev_var (pv 6))))) (gv_name (pg_name (i := 7) sc_parts_among.nd rfl (by first | exact Or.inl rfl | exact Or.inr rfl))) (svs_one (sv_if (tv_w (tw_and (tv_cmp (op_inP hr.units) in_r2 (ev_var (pv 7)) (ev_var (pv 1)) (by rfl)) (tw_and1 (tv_dnin (hu_of hr) (ev_var (pv 7)) (pv 3))))) (svs_cons (sv_dput (hu_of hr) (pv 3) (ev_var (pv 7)) ev_bl) (svs_one (sv_append (pv 5) (ev_var (pv 7)) (fun _ he => ps_expr (pe_bm PySem.F.plainAttrs_list PySem.F.slot_list_append PySem.F.type_list_append mt_append (pv 5) (pa_cons he pa_nil)))))) svs_nil))) (svs_one (sv_set (i := 6) sc_parts_among.nd rfl (Or.inl rfl) (ev_op op_addA add_r2 (ev_var (pv 6)) ev_int))))) (svs_one (sv_frz [5] (sv_oapp (pv 2) (fv_callB cr_sortedA sorted_rf rfl T.z_sorted (by decide +kernel) (av_cons (ev_var (pv 5)) av_nil)) (fun _ he => ps_expr (pe_bm PySem.F.plainAttrs_list PySem.F.slot_list_append PySem.F.type_list_append mt_append (pv 2) (pa_cons he pa_nil)))))))))) svs_nil))) (svs_one (sv_retO (pv 2))))))
theorem ok_parts_among {P : Program} {w : World} {K : Fr} {mg : Str → Option Value} {base : Heap} {ca : Str → Addr} {a : Nat → Addr} {fd : Nat → FuncData} (T : Tx K mg ca a fd) : FnOk P w K mg base CX0 1 (a 4) (fd 4) ["near", "points"] (spD K ca false 2 g_parts_among) :=
  fn_ok T.f_parts_among sc_parts_among rfl fun cdv A outer s H E hr => (svs_cons (sv_newO (i := 2) sc_parts_among.nd rfl (Or.inl rfl)) (svs_cons (sv_newK (i := 3) sc_parts_among.nd rfl (Or.inl rfl)) (svs_cons (sv_for PassesOwn.never rfl (iv_list (FV.ev (fv_callB cr_sortedA sorted_rf rfl T.z_sorted (by decide +kernel) (av_cons (ev_var (pv 1)) av_nil)))) (gv_name (pg_name (i := 4) sc_parts_among.nd rfl (by first | exact Or.inl rfl | exact Or.inr rfl))) (svs_one (sv_if (tv_dnin (hu_of hr) (ev_var (pv 4)) (pv 3)) (svs_cons (sv_dput (hu_of hr) (pv 3) (ev_var (pv 4)) ev_bl) (svs_cons (sv_own (i := 5) sc_parts_among.nd rfl (Or.inl rfl) (fv_lst (av_cons (ev_var (pv 4)) av_nil))) (svs_cons (sv_set (i := 6) sc_parts_among.nd rfl (Or.inl rfl) ev_int) (svs_cons (sv_while (fun _ => 1000000) PassesOwn.never (tv_cmp op_lt lt_r2 (ev_var (pv 6)) (ev_bor [5] (ev_callB call_len_seq len_rl rfl T.z_len boot_len (av_cons (ev_var (pv 5)) av_nil))) (nomark _)) (svs_cons (sv_for PassesOwn.never rfl (iv_list (ev_ix (ev_var (pv 0)) (ev_oix (pv 5) (ev_var (pv 6))))) (gv_name (pg_name (i := 7) sc_parts_among.nd rfl (by first | exact Or.inl rfl | exact Or.inr rfl))) (svs_one (sv_if (tv_w (tw_and (tv_cmp (op_inP hr.units) in_r2 (ev_var (pv 7)) (ev_var (pv 1)) (by rfl)) (tw_and1 (tv_dnin (hu_of hr) (ev_var (pv 7)) (pv 3))))) (svs_cons (sv_dput (hu_of hr) (pv 3) (ev_var (pv 7)) ev_bl) (svs_one (sv_append (pv 5) (ev_var (pv 7)) (fun _ he => ps_expr (pe_bm PySem.F.plainAttrs_list PySem.F.slot_list_append PySem.F.type_list_append mt_append (pv 5) (pa_cons he pa_nil)))))) svs_nil))) (svs_one (sv_set (i := 6) sc_parts_among.nd rfl (Or.inl rfl) (ev_op op_addA add_r2 (ev_var (pv 6)) ev_int))))) (svs_one (sv_frz [5] (sv_oapp (pv 2) (fv_callB cr_sortedA sorted_rf rfl T.z_sorted (by decide +kernel) (av_cons (ev_var (pv 5)) av_nil)) (fun _ he => ps_expr (pe_bm PySem.F.plainAttrs_list PySem.F.slot_list_append PySem.F.type_list_append mt_append (pv 2) (pa_cons he pa_nil)))))))))) svs_nil))) (svs_one (sv_retO (pv 2))))))
abbrev N_around : List Str := ["near", "part", "found", "point", "other"]
theorem sc_around : FnScope N_around ["near", "part"] (defScope s_around) := ⟨rfl, rfl, rfl, by decide +kernel, rfl, by decide +kernel, by decide +kernel⟩
theorem ok_around {P : Program} {w : World} {K : Fr} {mg : Str → Option Value} {base : Heap} {ca : Str → Addr} {a : Nat → Addr} {fd : Nat → FuncData} (T : Tx K mg ca a fd) : FnOk P w K mg base CX0 1 (a 6) (fd 6) ["near", "part"] (spD K ca false 2 g_around) :=
  fn_ok T.f_around sc_around rfl fun cdv A outer s H E hr => (svs_cons (sv_newK (i := 2) sc_around.nd rfl (Or.inl rfl)) (svs_cons (sv_for PassesOwn.never rfl (iv_list (ev_var (pv 1))) (gv_name (pg_name (i := 3) sc_around.nd rfl (by first | exact Or.inl rfl | exact Or.inr rfl))) (svs_one (sv_for PassesOwn.never rfl (iv_list (ev_ix (ev_var (pv 0)) (ev_var (pv 3)))) (gv_name (pg_name (i := 4) sc_around.nd rfl (by first | exact Or.inl rfl | exact Or.inr rfl))) (svs_one (sv_if (tv_cmp (op_notInP hr.units) notIn_r2 (ev_var (pv 4)) (ev_var (pv 1)) (by rfl)) (svs_one (sv_dput (hu_of hr) (pv 2) (ev_var (pv 4)) ev_bl)) svs_nil))))) (svs_one (sv_ret (FV.ev (fv_sortedK rfl rfl T.z_sorted rfl (pv 2)))))))
abbrev N_without : List Str := ["part", "point", "other"]
theorem sc_without : FnScope N_without ["part", "point"] (defScope s_without) := ⟨rfl, rfl, rfl, by decide +kernel, rfl, by decide +kernel, by decide +kernel⟩
theorem ok_without {P : Program} {w : World} {K : Fr} {mg : Str → Option Value} {base : Heap} {ca : Str → Addr} {a : Nat → Addr} {fd : Nat → FuncData} (T : Tx K mg ca a fd) : FnOk P w K mg base CX0 1 (a 7) (fd 7) ["part", "point"] (spD K ca false 2 g_without) :=
  fn_ok T.f_without sc_without rfl fun cdv A outer s H E hr => (svs_one (sv_ret (FV.ev (fv_lc (own := [("other", 2)]) rfl sc_without.nd (iv_list (ev_var (pv 0))) (blkOk_by (own := [("other", 2)]) (N := N_without) (by kernel_rfl)) (fun _ _ _ _ _ => (gv_name (pg_name (i := 2) sc_without.nd rfl (by first | exact Or.inl rfl | exact Or.inr rfl)))) (fun _ _ _ _ _ => (tsv_one (tv_cmp (op_neP hr.units) ne_r2 (ev_var (pv 2)) (ev_var (pv 1)) (nomark _)))) (fun _ _ _ _ _ => (ev_var (pv 2)))))))
abbrev N_law_spread : List Str := ["_law_cell"]
theorem sc_law_spread : FnScope N_law_spread ["_law_cell"] (defScope s_law_spread) := ⟨rfl, rfl, rfl, by decide +kernel, rfl, by decide +kernel, by decide +kernel⟩
theorem ok_law_spread {P : Program} {w : World} {K : Fr} {mg : Str → Option Value} {base : Heap} {ca : Str → Addr} {a : Nat → Addr} {fd : Nat → FuncData} (T : Tx K mg ca a fd) : FnOk P w K mg base CX0 1 (a 12) (fd 12) ["_law_cell"] (spD K ca false 1 g_law_spread) :=
  fn_ok T.f_law_spread sc_law_spread rfl fun cdv A outer s H E hr => (svs_one (sv_ret (ev_op op_addA add_r2 (ev_op op_mod mod_r2 (ev_op op_mulA mul_r2 (ev_var (pv 0)) ev_int) ev_int) (ev_op op_mulA mul_r2 (ev_op op_fdivW fdiv_r2 (ev_var (pv 0)) ev_int) ev_int))))
abbrev N_law_whole : List Str := ["_law_seen"]
theorem sc_law_whole : FnScope N_law_whole ["_law_seen"] (defScope s_law_whole) := ⟨rfl, rfl, rfl, by decide +kernel, rfl, by decide +kernel, by decide +kernel⟩
theorem ok_law_whole {P : Program} {w : World} {K : Fr} {mg : Str → Option Value} {base : Heap} {ca : Str → Addr} {a : Nat → Addr} {fd : Nat → FuncData} (T : Tx K mg ca a fd) : FnOk P w K mg base CX0 1 (a 14) (fd 14) ["_law_seen"] (spD K ca false 1 g_law_whole) :=
  fn_ok T.f_law_whole sc_law_whole rfl fun cdv A outer s H E hr => (svs_one (sv_ret (ev_and (ev_isi (T' := "int") (by decide) rfl T.z_isinstance (ev_var (pv 0)) (pe_bltn rfl T.z_int (by decide +kernel) rfl)) (ev_one (ev_not (ev_isi (T' := "bool") (by decide) rfl T.z_isinstance (ev_var (pv 0)) (pe_bltn rfl T.z_bool (by decide +kernel) rfl)))))))
abbrev N_law_tie : List Str := ["_law_cell", "_law_many", "_law_one", "_law_other"]
theorem sc_law_tie : FnScope N_law_tie ["_law_cell", "_law_many"] (defScope s_law_tie) := ⟨rfl, rfl, rfl, by decide +kernel, rfl, by decide +kernel, by decide +kernel⟩
theorem ok_law_tie {P : Program} {w : World} {K : Fr} {mg : Str → Option Value} {base : Heap} {ca : Str → Addr} {a : Nat → Addr} {fd : Nat → FuncData} (T : Tx K mg ca a fd) : FnOk P w K mg base CX0 1 (a 15) (fd 15) ["_law_cell", "_law_many"] (spD K ca false 2 g_law_tie) :=
  fn_ok T.f_law_tie sc_law_tie rfl fun cdv A outer s H E hr => (svs_cons (sv_set (i := 2) sc_law_tie.nd rfl (Or.inl rfl) (ev_op op_mod mod_r2 (ev_var (pv 0)) (ev_var (pv 1)))) (svs_cons (sv_set (i := 3) sc_law_tie.nd rfl (Or.inl rfl) (ev_op op_mod mod_r2 (ev_op op_addA add_r2 (ev_op op_addA add_r2 (ev_var (pv 2)) ev_int) (ev_op op_mod mod_r2 (ev_op op_fdivW fdiv_r2 (ev_var (pv 0)) (ev_var (pv 1))) (ev_callB (call_max2 rfl) max2_rl rfl T.z_max (by decide +kernel) (av_cons ev_int (av_cons (ev_op op_sub sub_r2 (ev_var (pv 1)) ev_int) av_nil))))) (ev_var (pv 1)))) (svs_one (sv_ret (ev_tup (av_cons (ev_callB (call_min2 rfl) min2_rl rfl T.z_min (by decide +kernel) (av_cons (ev_var (pv 2)) (av_cons (ev_var (pv 3)) av_nil))) (av_cons (ev_callB (call_max2 rfl) max2_rl rfl T.z_max (by decide +kernel) (av_cons (ev_var (pv 2)) (av_cons (ev_var (pv 3)) av_nil))) av_nil)))))))
abbrev N_law_laid_by : List Str := ["_law_many", "_law_ties_here", "_law_order", "_law_near", "_law_point", "_law_one", "_law_other", "_law_bags", "_law_k", "_law_later", "_law_links", "_law_ahead"]
theorem sc_law_laid_by : FnScope N_law_laid_by ["_law_many", "_law_ties_here", "_law_order"] (defScope s_law_laid_by) := ⟨rfl, rfl, rfl, by decide +kernel, rfl, by decide +kernel, by decide +kernel⟩
theorem ok_law_laid_by {P : Program} {w : World} {K : Fr} {mg : Str → Option Value} {base : Heap} {ca : Str → Addr} {a : Nat → Addr} {fd : Nat → FuncData} (T : Tx K mg ca a fd) : FnOk P w K mg base CX0 1 (a 18) (fd 18) ["_law_many", "_law_ties_here", "_law_order"] (spD K ca false 3 g_law_laid_by) :=
  fn_ok T.f_law_laid_by sc_law_laid_by rfl fun cdv A outer s H E hr => (svs_cons (⟨PS.imp (ps_setLc (i := 3) rfl sc_law_laid_by.nd rfl rfl (sw_true rfl rfl rfl (by decide +kernel)) (IV.pi (iv_rg1 rfl T.z_range (av_cons (ev_var (pv 0)) av_nil))) (blkOk_by (own := [("_law_point", 4)]) (N := N_law_laid_by) (sc := defScope s_law_laid_by) (by decide +kernel)) (fun _ _ _ _ _ => GV.pg (gv_name (pg_name (i := 4) sc_law_laid_by.nd rfl (Or.inl rfl)))) (fun _ _ _ _ _ => TsV.pt tsv_nil) (fun _ _ _ _ _ => pe_lst pa_nil)) fun _ _ _ q => tRows_of (by decide) q⟩) (svs_cons (sv_for PassesOwn.never rfl (iv_list (ev_var (pv 1))) (gv_2 (pg_tup rfl (pgs_cons (pg_name (i := 5) sc_law_laid_by.nd rfl (by first | exact Or.inl rfl | exact Or.inr rfl)) (pgs_cons (pg_name (i := 6) sc_law_laid_by.nd rfl (by first | exact Or.inl rfl | exact Or.inr rfl)) pgs_nil)))) (svs_cons (sv_rowApp (pv 3) (ev_var (pv 5)) (ev_var (pv 6)) (fun _ _ hi he => ps_expr (pe_bm PySem.F.plainAttrs_list PySem.F.slot_list_append PySem.F.type_list_append mt_append (pe_ix ix_list (pv 3) hi (fun _ _ => rfl)) (pa_cons he pa_nil)))) (svs_one (sv_rowApp (pv 3) (ev_var (pv 6)) (ev_var (pv 5)) (fun _ _ hi he => ps_expr (pe_bm PySem.F.plainAttrs_list PySem.F.slot_list_append PySem.F.type_list_append mt_append (pe_ix ix_list (pv 3) hi (fun _ _ => rfl)) (pa_cons he pa_nil))))))) (svs_cons (sv_own (i := 7) sc_law_laid_by.nd rfl (Or.inl rfl) (fv_lst av_nil)) (svs_cons (sv_for PassesOwn.never rfl (iv_rg1 rfl T.z_range (av_cons (ev_var (pv 0)) av_nil)) (gv_name (pg_name (i := 8) sc_law_laid_by.nd rfl (by first | exact Or.inl rfl | exact Or.inr rfl))) (svs_cons (sv_set (i := 4) sc_law_laid_by.nd rfl (Or.inl rfl) (ev_ix (ev_var (pv 2)) (ev_var (pv 8)))) (svs_cons (sv_half 3 (sv_set (i := 9) sc_law_laid_by.nd rfl (Or.inl rfl) (FV.ev (fv_sortedSet rfl rfl T.z_sorted rfl T.z_set (FV.ev (fv_lc (own := [("_law_other", 6)]) rfl sc_law_laid_by.nd (iv_list (ev_oix (pv 3) (ev_var (pv 4)))) (blkOk_by (own := [("_law_other", 6)]) (N := N_law_laid_by) (by kernel_rfl)) (fun _ _ _ _ _ => (gv_name (pg_name (i := 6) sc_law_laid_by.nd rfl (by first | exact Or.inl rfl | exact Or.inr rfl)))) (fun _ _ _ _ _ => (tsv_one (tv_cmp (op_inP hr.units) in_r2 (ev_var (pv 6)) (FV.ev (fv_slice (ev_var (pv 2)) (ov_e (ev_op op_addA add_r2 (ev_var (pv 8)) ev_int)) ov_no)) (by rfl)))) (fun _ _ _ _ _ => (ev_var (pv 6))))))))) (svs_cons (sv_append (pv 7) (FV.ev (fv_callB cr_sortedA sorted_rf rfl T.z_sorted (by decide +kernel) (av_cons (ev_op op_addA add_r2 (ev_var (pv 9)) (ev_lst (av_cons (ev_var (pv 4)) av_nil))) av_nil))) (fun _ he => ps_expr (pe_bm PySem.F.plainAttrs_list PySem.F.slot_list_append PySem.F.type_list_append mt_append (pv 7) (pa_cons he pa_nil)))) (svs_one (sv_for PassesOwn.never rfl (iv_list (ev_var (pv 9))) (gv_name (pg_name (i := 5) sc_law_laid_by.nd rfl (by first | exact Or.inl rfl | exact Or.inr rfl))) (svs_one (sv_half 3 (sv_half 3 (sv_lset (pv 3) (ev_var (pv 5)) (ev_op op_addA add_r2 (ev_oix (pv 3) (ev_var (pv 5))) (FV.ev (fv_lc (own := [("_law_other", 6)]) rfl sc_law_laid_by.nd (iv_list (ev_var (pv 9))) (blkOk_by (own := [("_law_other", 6)]) (N := N_law_laid_by) (by kernel_rfl)) (fun _ _ _ _ _ => (gv_name (pg_name (i := 6) sc_law_laid_by.nd rfl (by first | exact Or.inl rfl | exact Or.inr rfl)))) (fun _ _ _ _ _ => (tsv_one (tv_cmp (op_neP hr.units) ne_r2 (ev_var (pv 6)) (ev_var (pv 5)) (nomark _)))) (fun _ _ _ _ _ => (ev_var (pv 6)))))) (fun _ _ _ ho hi hv => ps_asg hv (pg_sub ho hi set_list)))))))))))) (svs_cons (sv_own (i := 10) sc_law_laid_by.nd rfl (Or.inl rfl) (fv_lst av_nil)) (svs_cons (sv_for PassesOwn.never rfl (iv_rg1 rfl T.z_range (av_cons (ev_op op_sub sub_r2 (ev_var (pv 0)) ev_int) av_nil)) (gv_name (pg_name (i := 8) sc_law_laid_by.nd rfl (by first | exact Or.inl rfl | exact Or.inr rfl))) (svs_cons (sv_setLc (i := 11) (own := [("_law_other", 6)]) rfl sc_law_laid_by.nd rfl rfl (sw_true rfl rfl rfl (by decide +kernel)) (iv_list (ev_oix (pv 7) (ev_var (pv 8)))) (blkOk_by (own := [("_law_other", 6)]) (N := N_law_laid_by) (by kernel_rfl)) (fun _ _ _ _ _ => (gv_name (pg_name (i := 6) sc_law_laid_by.nd rfl (by first | exact Or.inl rfl | exact Or.inr rfl)))) (fun _ _ _ _ _ => (tsv_one (tv_cmp op_gt gt_r2 (ev_index (ev_var (pv 2)) (ev_var (pv 6)) (fun _ _ ho he => pe_bm PySem.F.plainAttrs_list PySem.F.slot_list_index PySem.F.type_list_index mt_index ho (pa_cons he pa_nil))) (ev_var (pv 8)) (nomark _)))) (fun _ _ _ _ _ => (ev_index (ev_var (pv 2)) (ev_var (pv 6)) (fun _ _ ho he => pe_bm PySem.F.plainAttrs_list PySem.F.slot_list_index PySem.F.type_list_index mt_index ho (pa_cons he pa_nil))))) (svs_one (sv_append (pv 10) (ev_tup (av_cons (ev_var (pv 8)) (av_cons (ev_callB (cr_min rfl) minL_rl rfl T.z_min (by decide +kernel) (av_cons (ev_op op_addA add_r2 (ev_var (pv 11)) (ev_lst (av_cons (ev_op op_sub sub_r2 (ev_var (pv 0)) ev_int) av_nil))) av_nil)) av_nil))) (fun _ he => ps_expr (pe_bm PySem.F.plainAttrs_list PySem.F.slot_list_append PySem.F.type_list_append mt_append (pv 10) (pa_cons he pa_nil))))))) (svs_one (sv_frz [7, 10] (sv_ret (ev_tup (av_cons (ev_var (pv 7)) (av_cons (ev_var (pv 10)) av_nil))))))))))))
abbrev N_law_each_order : List Str := ["_law_number", "_law_many", "_law_left", "_law_made"]
theorem sc_law_each_order : FnScope N_law_each_order ["_law_number", "_law_many"] (defScope s_law_each_order) := ⟨rfl, rfl, rfl, by decide +kernel, rfl, by decide +kernel, by decide +kernel⟩
theorem ok_law_each_order {P : Program} {w : World} {K : Fr} {mg : Str → Option Value} {base : Heap} {ca : Str → Addr} {a : Nat → Addr} {fd : Nat → FuncData} (T : Tx K mg ca a fd) : FnOk P w K mg base CX0 1 (a 19) (fd 19) ["_law_number", "_law_many"] (spD K ca false 2 g_law_each_order) :=
  fn_ok T.f_law_each_order sc_law_each_order rfl fun cdv A outer s H E hr => (svs_cons (sv_own (i := 2) sc_law_each_order.nd rfl (Or.inl rfl) (fv_listRg rfl rfl T.z_list rfl T.z_range (ev_var (pv 1)) (fun _ h => pe_listRg rfl rfl T.z_list (prg_1 rfl T.z_range h)))) (svs_cons (sv_own (i := 3) sc_law_each_order.nd rfl (Or.inl rfl) (fv_lst av_nil)) (svs_cons (sv_while (fun _ => 1000000) PassesOwn.never (tv_bor [2] (tv_cmp (op_neP hr.units) ne_r2 (ev_var (pv 2)) (ev_lst av_nil) (nomark _))) (svs_cons (sv_appPop (ev_op op_mod mod_r2 (ev_var (pv 0)) (ev_bor [2] (ev_callB call_len_seq len_rl rfl T.z_len boot_len (av_cons (ev_var (pv 2)) av_nil)))) (fun _ he => ps_expr (pe_bm PySem.F.plainAttrs_list PySem.F.slot_list_append PySem.F.type_list_append mt_append (pv 3) (pa_cons (pe_bm PySem.F.plainAttrs_list PySem.F.slot_list_pop PySem.F.type_list_pop mt_popAt (pv 2) (pa_cons he pa_nil)) pa_nil)))) (svs_one (sv_set (i := 0) sc_law_each_order.nd rfl (Or.inl rfl) (ev_op op_fdivW fdiv_r2 (ev_var (pv 0)) (ev_op op_addA add_r2 (ev_bor [2] (ev_callB call_len_seq len_rl rfl T.z_len boot_len (av_cons (ev_var (pv 2)) av_nil))) ev_int)))))) (svs_one (sv_frz [3] (sv_ret (ev_var (pv 3))))))))
abbrev N_is_tie : List Str := ["thing", "many"]
theorem sc_is_tie : FnScope N_is_tie ["thing", "many"] (defScope s_is_tie) := ⟨rfl, rfl, rfl, by decide +kernel, rfl, by decide +kernel, by decide +kernel⟩
theorem ok_is_tie {P : Program} {w : World} {K : Fr} {mg : Str → Option Value} {base : Heap} {ca : Str → Addr} {a : Nat → Addr} {fd : Nat → FuncData} (T : Tx K mg ca a fd) : FnOk P w K mg base CX0 2 (a 1) (fd 1) ["thing", "many"] (spD K ca false 2 g_is_tie) :=
  fn_ok T.f_is_tie sc_is_tie rfl fun cdv A outer s H E hr => (svs_cons (sv_if (tv_w (tw_or (tv_not (tv_val (ev_isi (T' := "tuple") (by decide) rfl T.z_isinstance (ev_var (pv 0)) (pe_bltn rfl T.z_tuple (by decide +kernel) rfl)))) (tw_or (tv_cmp (op_neP hr.units) ne_r2 (ev_callB call_len_seq len_rl rfl T.z_len boot_len (av_cons (ev_var (pv 0)) av_nil)) ev_int (nomark _)) (tw_or (tv_not (tv_val (ev_call (ok_is_whole (ca := ca) T) (hr.mono (by decide)) rfl T.g_is_whole T.f_is_whole.kp T.b_is_whole pass0 (av_cons (ev_ix (ev_var (pv 0)) ev_int) av_nil) (aCons_len aNil_len)))) (tw_or1 (tv_not (tv_val (ev_call (ok_is_whole (ca := ca) T) (hr.mono (by decide)) rfl T.g_is_whole T.f_is_whole.kp T.b_is_whole pass0 (av_cons (ev_ix (ev_var (pv 0)) ev_int) av_nil) (aCons_len aNil_len))))))))) (svs_one (sv_ret ev_bl)) svs_nil) (svs_one (sv_ret (ev_ch3 op_le le_r2 op_lt lt_r2 op_lt lt_r2 ev_int (ev_ix (ev_var (pv 0)) ev_int) (ev_ix (ev_var (pv 0)) ev_int) (ev_var (pv 1))))))
abbrev N_laid : List Str := ["near", "parts", "known", "bags", "links", "waiting", "part", "above", "point", "number", "inner"]
theorem sc_laid : FnScope N_laid ["near", "parts", "known"] (defScope s_laid) := ⟨rfl, rfl, rfl, by decide +kernel, rfl, by decide +kernel, by decide +kernel⟩
theorem ok_laid {P : Program} {w : World} {K : Fr} {mg : Str → Option Value} {base : Heap} {ca : Str → Addr} {a : Nat → Addr} {fd : Nat → FuncData} (T : Tx K mg ca a fd) : FnOk P w K mg base CX0 2 (a 9) (fd 9) ["near", "parts", "known"] (spF K 2 gF_laid) :=
  let _ := ca; fn_okF T.f_laid sc_laid rfl fun cdv A outer s H E hr => (svs_cons (sv_own (i := 3) sc_laid.nd rfl (Or.inl rfl) (fv_lst av_nil)) (svs_cons (sv_own (i := 4) sc_laid.nd rfl (Or.inl rfl) (fv_lst av_nil)) (svs_cons (sv_ownLc (i := 5) (own := [("part", 6)]) rfl sc_laid.nd rfl rfl (sw_true rfl rfl rfl (by decide +kernel)) (iv_list (ev_var (pv 1))) (blkOk_by (own := [("part", 6)]) (N := N_laid) (by kernel_rfl)) (fun _ _ _ _ _ => (gv_name (pg_name (i := 6) sc_laid.nd rfl (by first | exact Or.inl rfl | exact Or.inr rfl)))) (fun _ _ _ _ _ => tsv_nil) (fun _ _ _ _ _ => (ev_tup (av_cons (ev_var (pv 6)) (av_cons ev_int av_nil))))) (svs_cons (sv_while (fun _ => 1000000) PassesOwn.never (tv_bor [5] (tv_cmp (op_neP hr.units) ne_r2 (ev_var (pv 5)) (ev_lst av_nil) (nomark _))) (svs_cons (sv_pop2 (pv 5) (ps_asg (pe_bm0 PySem.F.plainAttrs_list PySem.F.slot_list_pop PySem.F.type_list_pop mt_pop (pv 5)) (pg_tup rfl (pgs_cons (pg_name (i := 6) sc_laid.nd rfl (by first | exact Or.inl rfl | exact Or.inr rfl)) (pgs_cons (pg_name (i := 7) sc_laid.nd rfl (by first | exact Or.inl rfl | exact Or.inr rfl)) pgs_nil))))) (svs_cons (sv_set (i := 8) sc_laid.nd rfl (Or.inl rfl) (ev_ot (ev_dix (hu_of hr) (pv 2) (ev_callTy call_tuple_of tuple_rl rfl T.z_tuple (by decide +kernel) (av_cons (ev_var (pv 6)) av_nil))))) (svs_cons (sv_set (i := 9) sc_laid.nd rfl (Or.inr rfl) (ev_bor [3] (ev_callB call_len_seq len_rl rfl T.z_len boot_len (av_cons (ev_var (pv 3)) av_nil)))) (svs_cons (sv_append (pv 3) (FV.ev (fv_callB cr_sortedA sorted_rf rfl T.z_sorted (by decide +kernel) (av_cons (ev_op op_addA add_r2 (ev_call (ok_around (ca := ca) T) (hr.mono (by decide)) rfl T.g_around T.f_around.kp T.b_around pass0 (av_cons (ev_var (pv 0)) (av_cons (ev_var (pv 6)) av_nil)) (aCons_len (aCons_len aNil_len))) (ev_lst (av_cons (ev_var (pv 8)) av_nil))) av_nil))) (fun _ he => ps_expr (pe_bm PySem.F.plainAttrs_list PySem.F.slot_list_append PySem.F.type_list_append mt_append (pv 3) (pa_cons he pa_nil)))) (svs_cons (sv_if (tv_cmp op_gt gt_r2 (ev_var (pv 9)) ev_int (nomark _)) (svs_one (sv_append (pv 4) (ev_tup (av_cons (ev_var (pv 7)) (av_cons (ev_var (pv 9)) av_nil))) (fun _ he => ps_expr (pe_bm PySem.F.plainAttrs_list PySem.F.slot_list_append PySem.F.type_list_append mt_append (pv 4) (pa_cons he pa_nil))))) svs_nil) (svs_one (sv_extend (pv 5) (FV.ev (fv_lc (own := [("inner", 10)]) rfl sc_laid.nd (iv_list (ev_call (ok_parts_among (ca := ca) T) (hr.mono (by decide)) rfl T.g_parts_among T.f_parts_among.kp T.b_parts_among pass0 (av_cons (ev_var (pv 0)) (av_cons (ev_call (ok_without (ca := ca) T) (hr.mono (by decide)) rfl T.g_without T.f_without.kp T.b_without pass0 (av_cons (ev_var (pv 6)) (av_cons (ev_var (pv 8)) av_nil)) (aCons_len (aCons_len aNil_len))) av_nil)) (aCons_len (aCons_len aNil_len)))) (blkOk_by (own := [("inner", 10)]) (N := N_laid) (by kernel_rfl)) (fun _ _ _ _ _ => (gv_name (pg_name (i := 10) sc_laid.nd rfl (by first | exact Or.inl rfl | exact Or.inr rfl)))) (fun _ _ _ _ _ => tsv_nil) (fun _ _ _ _ _ => (ev_tup (av_cons (ev_var (pv 10)) (av_cons (ev_var (pv 9)) av_nil)))))) (fun _ he => ps_expr (pe_bm PySem.F.plainAttrs_list PySem.F.slot_list_extend PySem.F.type_list_extend mt_extend (pv 5) (pa_cons he pa_nil))))))))))) (svs_one (sv_frz [3, 4] (sv_ret (ev_tup (av_cons (ev_var (pv 3)) (av_cons (ev_var (pv 4)) av_nil))))))))))
abbrev N_law_cell_at : List Str := ["_law_script", "_law_k"]
theorem sc_law_cell_at : FnScope N_law_cell_at ["_law_script", "_law_k"] (defScope s_law_cell_at) := ⟨rfl, rfl, rfl, by decide +kernel, rfl, by decide +kernel, by decide +kernel⟩
theorem ok_law_cell_at {P : Program} {w : World} {K : Fr} {mg : Str → Option Value} {base : Heap} {ca : Str → Addr} {a : Nat → Addr} {fd : Nat → FuncData} (T : Tx K mg ca a fd) : FnOk P w K mg base CX0 2 (a 13) (fd 13) ["_law_script", "_law_k"] (spD K ca false 2 g_law_cell_at) :=
  fn_ok T.f_law_cell_at sc_law_cell_at rfl fun cdv A outer s H E hr => (svs_cons (sv_if (tv_cmp op_lt lt_r2 (ev_var (pv 1)) (ev_callB call_len_seq len_rl rfl T.z_len boot_len (av_cons (ev_var (pv 0)) av_nil)) (nomark _)) (svs_one (sv_ret (ev_call (ok_law_spread (ca := ca) T) (hr.mono (by decide)) rfl T.g_law_spread T.f_law_spread.kp T.b_law_spread pass0 (av_cons (ev_ix (ev_var (pv 0)) (ev_var (pv 1))) av_nil) (aCons_len aNil_len)))) svs_nil) (svs_one (sv_ret ev_int)))
abbrev N_law_ties : List Str := ["_law_cells", "_law_many", "_law_made", "_law_cell", "_law_tie_here"]
theorem sc_law_ties : FnScope N_law_ties ["_law_cells", "_law_many"] (defScope s_law_ties) := ⟨rfl, rfl, rfl, by decide +kernel, rfl, by decide +kernel, by decide +kernel⟩
theorem ok_law_ties {P : Program} {w : World} {K : Fr} {mg : Str → Option Value} {base : Heap} {ca : Str → Addr} {a : Nat → Addr} {fd : Nat → FuncData} (T : Tx K mg ca a fd) : FnOk P w K mg base CX0 2 (a 16) (fd 16) ["_law_cells", "_law_many"] (spD K ca false 2 g_law_ties) :=
  fn_ok T.f_law_ties sc_law_ties rfl fun cdv A outer s H E hr => (svs_cons (sv_own (i := 2) sc_law_ties.nd rfl (Or.inl rfl) (fv_lst av_nil)) (svs_cons (sv_for PassesOwn.never rfl (iv_list (ev_var (pv 0))) (gv_name (pg_name (i := 3) sc_law_ties.nd rfl (by first | exact Or.inl rfl | exact Or.inr rfl))) (svs_cons (sv_set (i := 4) sc_law_ties.nd rfl (Or.inl rfl) (ev_call (ok_law_tie (ca := ca) T) (hr.mono (by decide)) rfl T.g_law_tie T.f_law_tie.kp T.b_law_tie pass0 (av_cons (ev_var (pv 3)) (av_cons (ev_var (pv 1)) av_nil)) (aCons_len (aCons_len aNil_len)))) (svs_one (sv_if (tv_w (tw_and (tv_cmp (op_neP hr.units) ne_r2 (ev_ix (ev_var (pv 4)) ev_int) (ev_ix (ev_var (pv 4)) ev_int) (nomark _)) (tw_and1 (tv_bor [2] (tv_cmp (op_notInP hr.units) notIn_r2 (ev_var (pv 4)) (ev_var (pv 2)) (by rfl)))))) (svs_one (sv_append (pv 2) (ev_var (pv 4)) (fun _ he => ps_expr (pe_bm PySem.F.plainAttrs_list PySem.F.slot_list_append PySem.F.type_list_append mt_append (pv 2) (pa_cons he pa_nil))))) svs_nil)))) (svs_one (sv_frz [2] (sv_ret (ev_var (pv 2)))))))
abbrev N_need_web : List Str := ["many", "ties", "seen", "tie"]
theorem sc_need_web : FnScope N_need_web ["many", "ties"] (defScope s_need_web) := ⟨rfl, rfl, rfl, by decide +kernel, rfl, by decide +kernel, by decide +kernel⟩
theorem ok_need_web {P : Program} {w : World} {K : Fr} {mg : Str → Option Value} {base : Heap} {ca : Str → Addr} {a : Nat → Addr} {fd : Nat → FuncData} (T : Tx K mg ca a fd) : FnOk P w K mg base CX0 3 (a 2) (fd 2) ["many", "ties"] (spD K ca false 2 g_need_web) :=
  fn_ok T.f_need_web sc_need_web rfl fun cdv A outer s H E hr => (svs_cons (sv_if (tv_w (tw_or (tv_not (tv_val (ev_call (ok_is_whole (ca := ca) T) (hr.mono (by decide)) rfl T.g_is_whole T.f_is_whole.kp T.b_is_whole pass0 (av_cons (ev_var (pv 0)) av_nil) (aCons_len aNil_len)))) (tw_or (tv_not (tv_ch op_le le_r2 op_le le_r2 ev_int (ev_var (pv 0)) (ev_glob rfl T.c_MOST_POINTS))) (tw_or1 (tv_not (tv_val (ev_isi (T' := "list") (by decide) rfl T.z_isinstance (ev_var (pv 1)) (pe_bltn rfl T.z_list (by decide +kernel) rfl)))))))) (svs_one sv_exc0) svs_nil) (svs_cons (sv_newT (i := 2) sc_need_web.nd rfl (Or.inl rfl)) (svs_one (sv_for PassesOwn.never rfl (iv_list (ev_var (pv 1))) (gv_name (pg_name (i := 3) sc_need_web.nd rfl (by first | exact Or.inl rfl | exact Or.inr rfl))) (svs_cons (sv_if (tv_w (tw_or (tv_not (tv_val (ev_call (ok_is_tie (ca := ca) T) (hr.mono (by decide)) rfl T.g_is_tie T.f_is_tie.kp T.b_is_tie pass0 (av_cons (ev_var (pv 3)) (av_cons (ev_var (pv 0)) av_nil)) (aCons_len (aCons_len aNil_len))))) (tw_or1 (tv_din (hu_of hr) (ev_var (pv 3)) (pv 2))))) (svs_one sv_exc0) svs_nil) (svs_one (sv_dput (hu_of hr) (pv 2) (ev_var (pv 3)) ev_bl)))))))
abbrev N_need_most : List Str := ["many", "ties", "most"]
theorem sc_need_most : FnScope N_need_most ["many", "ties", "most"] (defScope s_need_most) := ⟨rfl, rfl, rfl, by decide +kernel, rfl, by decide +kernel, by decide +kernel⟩
theorem ok_need_most {P : Program} {w : World} {K : Fr} {mg : Str → Option Value} {base : Heap} {ca : Str → Addr} {a : Nat → Addr} {fd : Nat → FuncData} (T : Tx K mg ca a fd) : FnOk P w K mg base CX0 4 (a 5) (fd 5) ["many", "ties", "most"] (spD K ca false 3 g_need_most) :=
  fn_ok T.f_need_most sc_need_most rfl fun cdv A outer s H E hr => (svs_cons (sv_expr (ev_call (ok_need_web (ca := ca) T) (hr.mono (by decide)) rfl T.g_need_web T.f_need_web.kp T.b_need_web pass0 (av_cons (ev_var (pv 0)) (av_cons (ev_var (pv 1)) av_nil)) (aCons_len (aCons_len aNil_len)))) (svs_one (sv_if (tv_w (tw_or (tv_not (tv_val (ev_call (ok_is_whole (ca := ca) T) (hr.mono (by decide)) rfl T.g_is_whole T.f_is_whole.kp T.b_is_whole pass0 (av_cons (ev_var (pv 2)) av_nil) (aCons_len aNil_len)))) (tw_or1 (tv_not (tv_ch op_le le_r2 op_le le_r2 ev_int (ev_var (pv 2)) (ev_var (pv 0))))))) (svs_one sv_exc0) svs_nil)))
abbrev N_first_of : List Str := ["near", "part", "most", "known", "key", "point", "inner", "one"]
theorem sc_first_of : FnScope N_first_of ["near", "part", "most", "known"] (defScope s_first_of) := ⟨rfl, rfl, rfl, by decide +kernel, rfl, by decide +kernel, by decide +kernel⟩
theorem ok_first_of {P : Program} {w : World} {K : Fr} {mg : Str → Option Value} {base : Heap} {ca : Str → Addr} {a : Nat → Addr} {fd : Nat → FuncData} (T : Tx K mg ca a fd) : ∀ d : Nat, FnOk P w K mg base CX0 (1 + d) (a 8) (fd 8) ["near", "part", "most", "known"] (spF K 3 (gF_first_of d))
  | 0 => let _ := ca; fn_never
  | d + 1 => have ih := ok_first_of T d; fn_okF T.f_first_of sc_first_of rfl fun cdv A outer s H E hr => (svs_cons (sv_set (i := 4) sc_first_of.nd rfl (Or.inl rfl) (ev_callTy call_tuple_of tuple_rl rfl T.z_tuple (by decide +kernel) (av_cons (ev_var (pv 1)) av_nil))) (svs_cons (sv_if (tv_ot (tv_dnin (hu_of hr) (ev_var (pv 4)) (pv 3))) (svs_cons (sv_dputA (hu_of hr) (pv 3) (ev_var (pv 4)) ev_non) (svs_one (sv_if (tv_cmp op_lt lt_r2 (ev_callB call_len_seq len_rl rfl T.z_len boot_len (av_cons (ev_call (ok_around (ca := ca) T) (hr.mono (Nat.le_trans (m := 1) (by decide) (Nat.le_add_right 1 d))) rfl T.g_around T.f_around.kp T.b_around pass0 (av_cons (ev_var (pv 0)) (av_cons (ev_var (pv 1)) av_nil)) (aCons_len (aCons_len aNil_len))) av_nil)) (ev_var (pv 2)) (nomark _)) (svs_one (sv_for PassesOwn.never rfl (iv_list (ev_var (pv 1))) (gv_name (pg_name (i := 5) sc_first_of.nd rfl (by first | exact Or.inl rfl | exact Or.inr rfl))) (svs_cons (sv_set (i := 6) sc_first_of.nd rfl (Or.inl rfl) (ev_call (ok_parts_among (ca := ca) T) (hr.mono (Nat.le_trans (m := 1) (by decide) (Nat.le_add_right 1 d))) rfl T.g_parts_among T.f_parts_among.kp T.b_parts_among pass0 (av_cons (ev_var (pv 0)) (av_cons (ev_call (ok_without (ca := ca) T) (hr.mono (Nat.le_trans (m := 1) (by decide) (Nat.le_add_right 1 d))) rfl T.g_without T.f_without.kp T.b_without pass0 (av_cons (ev_var (pv 1)) (av_cons (ev_var (pv 5)) av_nil)) (aCons_len (aCons_len aNil_len))) av_nil)) (aCons_len (aCons_len aNil_len)))) (svs_one (sv_ifM (mt_w (mw_and (tv_cmp op_isA is_r2 (ev_ot (ev_dix (hu_of hr) (pv 3) (ev_var (pv 4)))) ev_non (nomark _)) (mw_and1 (mt_cmp (op_notInP hr.units) notIn_r2 ev_non (mv_lc (i := 3) (own := [("one", 7)]) rfl sc_first_of.nd (iv_list (ev_var (pv 6))) (blkOk_by (own := [("one", 7)]) (N := N_first_of) (by kernel_rfl)) (fun _ _ _ _ _ => (gv_name (pg_name (i := 7) sc_first_of.nd rfl (by first | exact Or.inl rfl | exact Or.inr rfl)))) (fun _ _ _ _ _ => tsv_nil) (fun _ _ _ _ _ => (mv_call (i := 3) ih hr rfl T.g_first_of T.f_first_of.kp T.b_first_of pass0 (avd_cons (ev_var (pv 0)) (avd_cons (ev_var (pv 7)) (avd_cons (ev_var (pv 2)) (avd_last (pv 3))))) (aCons_len (aCons_len (aCons_len aNil_len)))))) (by rfl))))) (svs_one (sv_dputA (hu_of hr) (pv 3) (ev_var (pv 4)) (ev_var (pv 5)))) svs_nil))))) svs_nil))) svs_nil) (svs_one (sv_ret (ev_ot (ev_dix (hu_of hr) (pv 3) (ev_var (pv 4))))))))
abbrev N_layout : List Str := ["many", "ties", "most", "near", "known", "parts", "part"]
theorem sc_layout : FnScope N_layout ["many", "ties", "most"] (defScope s_layout) := ⟨rfl, rfl, rfl, by decide +kernel, rfl, by decide +kernel, by decide +kernel⟩
theorem ok_layout {P : Program} {w : World} {K : Fr} {mg : Str → Option Value} {base : Heap} {ca : Str → Addr} {a : Nat → Addr} {fd : Nat → FuncData} (T : Tx K mg ca a fd) : FnOk P w K mg base CX0 13 (a 10) (fd 10) ["many", "ties", "most"] (spD K ca false 3 g_layout) :=
  fn_ok T.f_layout sc_layout rfl fun cdv A outer s H E hr => (svs_cons (sv_expr (ev_call (ok_need_most (ca := ca) T) (hr.mono (by decide)) rfl T.g_need_most T.f_need_most.kp T.b_need_most pass0 (av_cons (ev_var (pv 0)) (av_cons (ev_var (pv 1)) (av_cons (ev_var (pv 2)) av_nil))) (aCons_len (aCons_len (aCons_len aNil_len))))) (svs_cons (sv_set (i := 3) sc_layout.nd rfl (Or.inr rfl) (ev_call (ok_near_of (ca := ca) T) (hr.mono (by decide)) rfl T.g_near_of T.f_near_of.kp T.b_near_of pass0 (av_cons (ev_var (pv 0)) (av_cons (ev_var (pv 1)) av_nil)) (aCons_len (aCons_len aNil_len)))) (svs_cons (sv_newT (i := 4) sc_layout.nd rfl (Or.inr rfl)) (svs_cons (sv_set (i := 5) sc_layout.nd rfl (Or.inl rfl) (ev_call (ok_parts_among (ca := ca) T) (hr.mono (by decide)) rfl T.g_parts_among T.f_parts_among.kp T.b_parts_among pass0 (av_cons (ev_var (pv 3)) (av_cons (FV.ev (fv_listRg rfl rfl T.z_list rfl T.z_range (ev_var (pv 0)) (fun _ h => pe_listRg rfl rfl T.z_list (prg_1 rfl T.z_range h)))) av_nil)) (aCons_len (aCons_len aNil_len)))) (svs_cons (sv_ifM (mt_cmp (op_inP hr.units) in_r2 ev_non (mv_lc (i := 4) (own := [("part", 6)]) rfl sc_layout.nd (iv_list (ev_var (pv 5))) (blkOk_by (own := [("part", 6)]) (N := N_layout) (by kernel_rfl)) (fun _ _ _ _ _ => (gv_name (pg_name (i := 6) sc_layout.nd rfl (by first | exact Or.inl rfl | exact Or.inr rfl)))) (fun _ _ _ _ _ => tsv_nil) (fun _ _ _ _ _ => (mv_call (i := 4) (ok_first_of (ca := ca) T 11) (hr.mono (by decide)) rfl T.g_first_of T.f_first_of.kp T.b_first_of pass0 (avd_cons (ev_var (pv 3)) (avd_cons (ev_var (pv 6)) (avd_cons (ev_var (pv 2)) (avd_last (pv 4))))) (aCons_len (aCons_len (aCons_len aNil_len)))))) (by rfl)) (svs_one (sv_ret ev_non)) svs_nil) (svs_one (sv_retM (mv_call (i := 4) (ok_laid (ca := ca) T) (hr.mono (by decide)) rfl T.g_laid T.f_laid.kp T.b_laid pass0 (avd_cons (ev_var (pv 3)) (avd_cons (ev_var (pv 5)) (avd_last (pv 4)))) (aCons_len (aCons_len aNil_len))))))))))
abbrev N_least : List Str := ["many", "ties", "most"]
theorem sc_least : FnScope N_least ["many", "ties"] (defScope s_least) := ⟨rfl, rfl, rfl, by decide +kernel, rfl, by decide +kernel, by decide +kernel⟩
theorem ok_least {P : Program} {w : World} {K : Fr} {mg : Str → Option Value} {base : Heap} {ca : Str → Addr} {a : Nat → Addr} {fd : Nat → FuncData} (T : Tx K mg ca a fd) : FnOk P w K mg base CX0 14 (a 11) (fd 11) ["many", "ties"] (spD K ca false 2 g_least) :=
  fn_ok T.f_least sc_least rfl fun cdv A outer s H E hr => (svs_cons (sv_expr (ev_call (ok_need_web (ca := ca) T) (hr.mono (by decide)) rfl T.g_need_web T.f_need_web.kp T.b_need_web pass0 (av_cons (ev_var (pv 0)) (av_cons (ev_var (pv 1)) av_nil)) (aCons_len (aCons_len aNil_len)))) (svs_cons (sv_for PassesOwn.never rfl (iv_rg2 rfl T.z_range (av_cons ev_int (av_cons (ev_var (pv 0)) av_nil))) (gv_name (pg_name (i := 2) sc_least.nd rfl (by first | exact Or.inl rfl | exact Or.inr rfl))) (svs_one (sv_if (tv_cmp op_isNotA isNot_r2 (ev_call (ok_layout (ca := ca) T) (hr.mono (by decide)) rfl T.g_layout T.f_layout.kp T.b_layout pass0 (av_cons (ev_var (pv 0)) (av_cons (ev_var (pv 1)) (av_cons (ev_var (pv 2)) av_nil))) (aCons_len (aCons_len (aCons_len aNil_len)))) ev_non (nomark _)) (svs_one (sv_ret (ev_var (pv 2)))) svs_nil))) (svs_one (sv_ret (ev_var (pv 0))))))
abbrev N_law : List Str := ["_law_script", "_law_many", "_law_ties_here", "_law_due", "_law_turns", "_law_k", "_law_cell", "_law_found", "_law_bag", "_law_seen", "_law_most"]
theorem sc_law : FnScope N_law ["_law_script"] (defScope s_law) := ⟨rfl, rfl, rfl, by decide +kernel, rfl, by decide +kernel, by decide +kernel⟩
theorem ok_law {P : Program} {w : World} {K : Fr} {mg : Str → Option Value} {base : Heap} {ca : Str → Addr} {a : Nat → Addr} {fd : Nat → FuncData} (T : Tx K mg ca a fd) : FnOk P w K mg base CX0 15 (a 20) (fd 20) ["_law_script"] (spD K ca false 1 g_law_k07) :=
  fn_ok T.f_law sc_law rfl fun cdv A outer s H E hr => (svs_cons (sv_set (i := 1) sc_law.nd rfl (Or.inr rfl) (ev_op op_addA add_r2 ev_int (ev_op op_mod mod_r2 (ev_call (ok_law_cell_at (ca := ca) T) (hr.mono (by decide)) rfl T.g_law_cell_at T.f_law_cell_at.kp T.b_law_cell_at pass0 (av_cons (ev_var (pv 0)) (av_cons ev_int av_nil)) (aCons_len (aCons_len aNil_len))) ev_int))) (svs_cons (sv_set (i := 2) sc_law.nd rfl (Or.inr rfl) (ev_call (ok_law_ties (ca := ca) T) (hr.mono (by decide)) rfl T.g_law_ties T.f_law_ties.kp T.b_law_ties pass0 (av_cons (FV.ev (fv_slice (ev_var (pv 0)) (ov_e ev_int) (ov_e (ev_op op_addA add_r2 ev_int (ev_op op_mod mod_r2 (ev_call (ok_law_cell_at (ca := ca) T) (hr.mono (by decide)) rfl T.g_law_cell_at T.f_law_cell_at.kp T.b_law_cell_at pass0 (av_cons (ev_var (pv 0)) (av_cons ev_int av_nil)) (aCons_len (aCons_len aNil_len))) ev_int))))) (av_cons (ev_var (pv 1)) av_nil)) (aCons_len (aCons_len aNil_len)))) (svs_cons (sv_set (i := 3) sc_law.nd rfl (Or.inr rfl) (ev_var (pv 1))) (svs_cons (sv_set (i := 4) sc_law.nd rfl (Or.inl rfl) ev_int) (svs_cons (sv_for PassesOwn.never rfl (iv_rg1 rfl T.z_range (av_cons (ev_var (pv 1)) av_nil)) (gv_name (pg_name (i := 5) sc_law.nd rfl (by first | exact Or.inl rfl | exact Or.inr rfl))) (svs_one (sv_set (i := 4) sc_law.nd rfl (Or.inl rfl) (ev_op op_mulA mul_r2 (ev_var (pv 4)) (ev_op op_addA add_r2 (ev_var (pv 5)) ev_int))))) (svs_cons (sv_for PassesOwn.never rfl (iv_rg1 rfl T.z_range (av_cons (ev_var (pv 4)) av_nil)) (gv_name (pg_name (i := 6) sc_law.nd rfl (by first | exact Or.inl rfl | exact Or.inr rfl))) (svs_cons (sv_set (i := 7) sc_law.nd rfl (Or.inl rfl) (ev_call (ok_law_laid_by (ca := ca) T) (hr.mono (by decide)) rfl T.g_law_laid_by T.f_law_laid_by.kp T.b_law_laid_by pass0 (av_cons (ev_var (pv 1)) (av_cons (ev_var (pv 2)) (av_cons (ev_call (ok_law_each_order (ca := ca) T) (hr.mono (by decide)) rfl T.g_law_each_order T.f_law_each_order.kp T.b_law_each_order pass0 (av_cons (ev_var (pv 6)) (av_cons (ev_var (pv 1)) av_nil)) (aCons_len (aCons_len aNil_len))) av_nil))) (aCons_len (aCons_len (aCons_len aNil_len))))) (svs_one (sv_set (i := 3) sc_law.nd rfl (Or.inr rfl) (ev_callB (call_min2 rfl) min2_rl rfl T.z_min (by decide +kernel) (av_cons (ev_var (pv 3)) (av_cons (ev_callB (cr_max rfl) maxL_rl rfl T.z_max (by decide +kernel) (av_cons (FV.ev (fv_lc (own := [("_law_bag", 8)]) rfl sc_law.nd (iv_list (ev_ix (ev_var (pv 7)) ev_int)) (blkOk_by (own := [("_law_bag", 8)]) (N := N_law) (by kernel_rfl)) (fun _ _ _ _ _ => (gv_name (pg_name (i := 8) sc_law.nd rfl (by first | exact Or.inl rfl | exact Or.inr rfl)))) (fun _ _ _ _ _ => tsv_nil) (fun _ _ _ _ _ => (ev_callB call_len_seq len_rl rfl T.z_len boot_len (av_cons (ev_var (pv 8)) av_nil))))) av_nil)) av_nil))))))) (svs_cons (sv_set (i := 9) sc_law.nd rfl (Or.inl rfl) (ev_call (ok_least (ca := ca) T) (hr.mono (by decide)) rfl T.g_least T.f_least.kp T.b_least pass0 (av_cons (ev_var (pv 1)) (av_cons (FV.ev (fv_callTy call_list_of list_rf rfl T.z_list boot_list (av_cons (ev_var (pv 2)) av_nil))) av_nil)) (aCons_len (aCons_len aNil_len)))) (svs_cons (sv_if (tv_w (tw_or (tv_not (tv_val (ev_call (ok_law_whole (ca := ca) T) (hr.mono (by decide)) rfl T.g_law_whole T.f_law_whole.kp T.b_law_whole pass0 (av_cons (ev_var (pv 9)) av_nil) (aCons_len aNil_len)))) (tw_or1 (tv_cmp (op_neP hr.units) ne_r2 (ev_var (pv 9)) (ev_var (pv 3)) (nomark _))))) (svs_one (sv_ret ev_bl)) svs_nil) (svs_one (sv_ret (ev_callB (cr_all rfl) all_rl rfl T.z_all (by decide +kernel) (av_cons (FV.ev (fv_lc (own := [("_law_most", 10)]) rfl sc_law.nd (iv_rg2 rfl T.z_range (av_cons ev_int (av_cons (ev_op op_addA add_r2 (ev_var (pv 1)) ev_int) av_nil))) (blkOk_by (own := [("_law_most", 10)]) (N := N_law) (by kernel_rfl)) (fun _ _ _ _ _ => (gv_name (pg_name (i := 10) sc_law.nd rfl (by first | exact Or.inl rfl | exact Or.inr rfl)))) (fun _ _ _ _ _ => tsv_nil) (fun _ _ _ _ _ => (ev_cmp (op_eqP hr.units) eq_r2 (ev_cmp op_isNotA isNot_r2 (ev_call (ok_layout (ca := ca) T) (hr.mono (by decide)) rfl T.g_layout T.f_layout.kp T.b_layout pass0 (av_cons (ev_var (pv 1)) (av_cons (FV.ev (fv_callTy call_list_of list_rf rfl T.z_list boot_list (av_cons (ev_var (pv 2)) av_nil))) (av_cons (ev_var (pv 10)) av_nil))) (aCons_len (aCons_len (aCons_len aNil_len)))) ev_non (nomark _)) (ev_cmp op_ge ge_r2 (ev_var (pv 10)) (ev_var (pv 3)) (nomark _)) (nomark _))))) av_nil))))))))))))
set_option maxHeartbeats 0 in
theorem all_mk {l : PySem.W.OpenLaw} {w : World} {K : PySem.W.Frag} {h : Heap} {mg : Str → Option Value} {fa : Addr} (X : K.In h) (G : h.Ns mainGlobals mg) (hfa : mg "law" = some (.ref fa))
    {f0 f1 f2 f3 f4 f5 f6 f7 f8 f9 f10 f11 f12 f13 f14 f15 f16 f18 f19 f20 : Addr} {od0 an0 od1 an1 od2 an2 od3 an3 od4 an4 od5 an5 od6 an6 od7 an7 od8 an8 od9 an9 od10 an10 od11 an11 od12 an12 od13 an13 od14 an14 od15 an15 od16 an16 od18 an18 od19 an19 od20 an20 : Option Addr} {sl0 sl1 sl2 sl3 sl4 sl5 sl6 sl7 sl8 sl9 sl10 sl11 sl12 sl13 sl14 sl15 sl16 sl18 sl19 sl20 : Array (Option Value)} {oc0 kV0 dc0 pm0 cd0 ct0 oc1 kV1 dc1 pm1 cd1 ct1 oc2 kV2 dc2 pm2 cd2 ct2 oc3 kV3 dc3 pm3 cd3 ct3 oc4 kV4 dc4 pm4 cd4 ct4 oc5 kV5 dc5 pm5 cd5 ct5 oc6 kV6 dc6 pm6 cd6 ct6 oc7 kV7 dc7 pm7 cd7 ct7 oc8 kV8 dc8 pm8 cd8 ct8 oc9 kV9 dc9 pm9 cd9 ct9 oc10 kV10 dc10 pm10 cd10 ct10 oc11 kV11 dc11 pm11 cd11 ct11 oc12 kV12 dc12 pm12 cd12 ct12 oc13 kV13 dc13 pm13 cd13 ct13 oc14 kV14 dc14 pm14 cd14 ct14 oc15 kV15 dc15 pm15 cd15 ct15 oc16 kV16 dc16 pm16 cd16 ct16 oc18 kV18 dc18 pm18 cd18 ct18 oc19 kV19 dc19 pm19 cd19 ct19 oc20 kV20 dc20 pm20 cd20 ct20 : Value}
    {t_MOST_POINTS : Tok}
    (a0 : PySem.W.nsIn K mainGlobals "is_whole" = some (some (.ref f0))) (l0 : K.lookup f0 = some ⟨oc0, od0, .func (PySem.W.fnOf "is_whole" "is_whole" (defArgs s_is_whole) (defBody s_is_whole) (defScope s_is_whole) .none kV0 dc0 pm0 an0 cd0 ct0), sl0⟩) (c0 : PySem.W.codeIn K cd0 "is_whole" = true) (k0 : PySem.W.keepIn K (.ref f0) = true)
    (a1 : PySem.W.nsIn K mainGlobals "is_tie" = some (some (.ref f1))) (l1 : K.lookup f1 = some ⟨oc1, od1, .func (PySem.W.fnOf "is_tie" "is_tie" (defArgs s_is_tie) (defBody s_is_tie) (defScope s_is_tie) .none kV1 dc1 pm1 an1 cd1 ct1), sl1⟩) (c1 : PySem.W.codeIn K cd1 "is_tie" = true) (k1 : PySem.W.keepIn K (.ref f1) = true)
    (a2 : PySem.W.nsIn K mainGlobals "need_web" = some (some (.ref f2))) (l2 : K.lookup f2 = some ⟨oc2, od2, .func (PySem.W.fnOf "need_web" "need_web" (defArgs s_need_web) (defBody s_need_web) (defScope s_need_web) .none kV2 dc2 pm2 an2 cd2 ct2), sl2⟩) (c2 : PySem.W.codeIn K cd2 "need_web" = true) (k2 : PySem.W.keepIn K (.ref f2) = true)
    (a3 : PySem.W.nsIn K mainGlobals "near_of" = some (some (.ref f3))) (l3 : K.lookup f3 = some ⟨oc3, od3, .func (PySem.W.fnOf "near_of" "near_of" (defArgs s_near_of) (defBody s_near_of) (defScope s_near_of) .none kV3 dc3 pm3 an3 cd3 ct3), sl3⟩) (c3 : PySem.W.codeIn K cd3 "near_of" = true) (k3 : PySem.W.keepIn K (.ref f3) = true)
    (a4 : PySem.W.nsIn K mainGlobals "parts_among" = some (some (.ref f4))) (l4 : K.lookup f4 = some ⟨oc4, od4, .func (PySem.W.fnOf "parts_among" "parts_among" (defArgs s_parts_among) (defBody s_parts_among) (defScope s_parts_among) .none kV4 dc4 pm4 an4 cd4 ct4), sl4⟩) (c4 : PySem.W.codeIn K cd4 "parts_among" = true) (k4 : PySem.W.keepIn K (.ref f4) = true)
    (a5 : PySem.W.nsIn K mainGlobals "need_most" = some (some (.ref f5))) (l5 : K.lookup f5 = some ⟨oc5, od5, .func (PySem.W.fnOf "need_most" "need_most" (defArgs s_need_most) (defBody s_need_most) (defScope s_need_most) .none kV5 dc5 pm5 an5 cd5 ct5), sl5⟩) (c5 : PySem.W.codeIn K cd5 "need_most" = true) (k5 : PySem.W.keepIn K (.ref f5) = true)
    (a6 : PySem.W.nsIn K mainGlobals "around" = some (some (.ref f6))) (l6 : K.lookup f6 = some ⟨oc6, od6, .func (PySem.W.fnOf "around" "around" (defArgs s_around) (defBody s_around) (defScope s_around) .none kV6 dc6 pm6 an6 cd6 ct6), sl6⟩) (c6 : PySem.W.codeIn K cd6 "around" = true) (k6 : PySem.W.keepIn K (.ref f6) = true)
    (a7 : PySem.W.nsIn K mainGlobals "without" = some (some (.ref f7))) (l7 : K.lookup f7 = some ⟨oc7, od7, .func (PySem.W.fnOf "without" "without" (defArgs s_without) (defBody s_without) (defScope s_without) .none kV7 dc7 pm7 an7 cd7 ct7), sl7⟩) (c7 : PySem.W.codeIn K cd7 "without" = true) (k7 : PySem.W.keepIn K (.ref f7) = true)
    (a8 : PySem.W.nsIn K mainGlobals "first_of" = some (some (.ref f8))) (l8 : K.lookup f8 = some ⟨oc8, od8, .func (PySem.W.fnOf "first_of" "first_of" (defArgs s_first_of) (defBody s_first_of) (defScope s_first_of) .none kV8 dc8 pm8 an8 cd8 ct8), sl8⟩) (c8 : PySem.W.codeIn K cd8 "first_of" = true) (k8 : PySem.W.keepIn K (.ref f8) = true)
    (a9 : PySem.W.nsIn K mainGlobals "laid" = some (some (.ref f9))) (l9 : K.lookup f9 = some ⟨oc9, od9, .func (PySem.W.fnOf "laid" "laid" (defArgs s_laid) (defBody s_laid) (defScope s_laid) .none kV9 dc9 pm9 an9 cd9 ct9), sl9⟩) (c9 : PySem.W.codeIn K cd9 "laid" = true) (k9 : PySem.W.keepIn K (.ref f9) = true)
    (a10 : PySem.W.nsIn K mainGlobals "layout" = some (some (.ref f10))) (l10 : K.lookup f10 = some ⟨oc10, od10, .func (PySem.W.fnOf "layout" "layout" (defArgs s_layout) (defBody s_layout) (defScope s_layout) .none kV10 dc10 pm10 an10 cd10 ct10), sl10⟩) (c10 : PySem.W.codeIn K cd10 "layout" = true) (k10 : PySem.W.keepIn K (.ref f10) = true)
    (a11 : PySem.W.nsIn K mainGlobals "least" = some (some (.ref f11))) (l11 : K.lookup f11 = some ⟨oc11, od11, .func (PySem.W.fnOf "least" "least" (defArgs s_least) (defBody s_least) (defScope s_least) .none kV11 dc11 pm11 an11 cd11 ct11), sl11⟩) (c11 : PySem.W.codeIn K cd11 "least" = true) (k11 : PySem.W.keepIn K (.ref f11) = true)
    (a12 : PySem.W.nsIn K mainGlobals "_law_spread" = some (some (.ref f12))) (l12 : K.lookup f12 = some ⟨oc12, od12, .func (PySem.W.fnOf "_law_spread" "_law_spread" (defArgs s_law_spread) (defBody s_law_spread) (defScope s_law_spread) .none kV12 dc12 pm12 an12 cd12 ct12), sl12⟩) (c12 : PySem.W.codeIn K cd12 "_law_spread" = true) (k12 : PySem.W.keepIn K (.ref f12) = true)
    (a13 : PySem.W.nsIn K mainGlobals "_law_cell_at" = some (some (.ref f13))) (l13 : K.lookup f13 = some ⟨oc13, od13, .func (PySem.W.fnOf "_law_cell_at" "_law_cell_at" (defArgs s_law_cell_at) (defBody s_law_cell_at) (defScope s_law_cell_at) .none kV13 dc13 pm13 an13 cd13 ct13), sl13⟩) (c13 : PySem.W.codeIn K cd13 "_law_cell_at" = true) (k13 : PySem.W.keepIn K (.ref f13) = true)
    (a14 : PySem.W.nsIn K mainGlobals "_law_whole" = some (some (.ref f14))) (l14 : K.lookup f14 = some ⟨oc14, od14, .func (PySem.W.fnOf "_law_whole" "_law_whole" (defArgs s_law_whole) (defBody s_law_whole) (defScope s_law_whole) .none kV14 dc14 pm14 an14 cd14 ct14), sl14⟩) (c14 : PySem.W.codeIn K cd14 "_law_whole" = true) (k14 : PySem.W.keepIn K (.ref f14) = true)
    (a15 : PySem.W.nsIn K mainGlobals "_law_tie" = some (some (.ref f15))) (l15 : K.lookup f15 = some ⟨oc15, od15, .func (PySem.W.fnOf "_law_tie" "_law_tie" (defArgs s_law_tie) (defBody s_law_tie) (defScope s_law_tie) .none kV15 dc15 pm15 an15 cd15 ct15), sl15⟩) (c15 : PySem.W.codeIn K cd15 "_law_tie" = true) (k15 : PySem.W.keepIn K (.ref f15) = true)
    (a16 : PySem.W.nsIn K mainGlobals "_law_ties" = some (some (.ref f16))) (l16 : K.lookup f16 = some ⟨oc16, od16, .func (PySem.W.fnOf "_law_ties" "_law_ties" (defArgs s_law_ties) (defBody s_law_ties) (defScope s_law_ties) .none kV16 dc16 pm16 an16 cd16 ct16), sl16⟩) (c16 : PySem.W.codeIn K cd16 "_law_ties" = true) (k16 : PySem.W.keepIn K (.ref f16) = true)
    (a18 : PySem.W.nsIn K mainGlobals "_law_laid_by" = some (some (.ref f18))) (l18 : K.lookup f18 = some ⟨oc18, od18, .func (PySem.W.fnOf "_law_laid_by" "_law_laid_by" (defArgs s_law_laid_by) (defBody s_law_laid_by) (defScope s_law_laid_by) .none kV18 dc18 pm18 an18 cd18 ct18), sl18⟩) (c18 : PySem.W.codeIn K cd18 "_law_laid_by" = true) (k18 : PySem.W.keepIn K (.ref f18) = true)
    (a19 : PySem.W.nsIn K mainGlobals "_law_each_order" = some (some (.ref f19))) (l19 : K.lookup f19 = some ⟨oc19, od19, .func (PySem.W.fnOf "_law_each_order" "_law_each_order" (defArgs s_law_each_order) (defBody s_law_each_order) (defScope s_law_each_order) .none kV19 dc19 pm19 an19 cd19 ct19), sl19⟩) (c19 : PySem.W.codeIn K cd19 "_law_each_order" = true) (k19 : PySem.W.keepIn K (.ref f19) = true)
    (a20 : PySem.W.nsIn K mainGlobals "law" = some (some (.ref f20))) (l20 : K.lookup f20 = some ⟨oc20, od20, .func (PySem.W.fnOf "law" "law" (defArgs s_law) (defBody s_law) (defScope s_law) .none kV20 dc20 pm20 an20 cd20 ct20), sl20⟩) (c20 : PySem.W.codeIn K cd20 "law" = true) (k20 : PySem.W.keepIn K (.ref f20) = true)
    (z_all : PySem.W.nsIn K mainGlobals "all" = some none)
    (z_bool : PySem.W.nsIn K mainGlobals "bool" = some none)
    (z_int : PySem.W.nsIn K mainGlobals "int" = some none)
    (z_isinstance : PySem.W.nsIn K mainGlobals "isinstance" = some none)
    (z_len : PySem.W.nsIn K mainGlobals "len" = some none)
    (z_list : PySem.W.nsIn K mainGlobals "list" = some none)
    (z_max : PySem.W.nsIn K mainGlobals "max" = some none)
    (z_min : PySem.W.nsIn K mainGlobals "min" = some none)
    (z_range : PySem.W.nsIn K mainGlobals "range" = some none)
    (z_set : PySem.W.nsIn K mainGlobals "set" = some none)
    (z_sorted : PySem.W.nsIn K mainGlobals "sorted" = some none)
    (z_tuple : PySem.W.nsIn K mainGlobals "tuple" = some none)
    (v_MOST_POINTS : PySem.W.nsIn K mainGlobals "MOST_POINTS" = some (some (.int 10 t_MOST_POINTS)))
    : ∃ fd : FuncData, (∀ (s : Shared) (v : Value), BindsTo s fd ⟨[v], []⟩ [("_law_script", v)]) ∧ ∀ base : Heap, K.In base → base.Ns mainGlobals mg → FnOk l.prog w K mg base CX0 15 fa fd ["_law_script"] (spD K (fun _ => 0) false 1 g_law_k07) := by
  have e := hfa.symm.trans (PySem.W.mg_of X G a20)
  cases e
  have F0 := fun_mk (st := s_is_whole) l0 c0 k0
  have b0 := F0.binds (ps := ["thing"]) fun _ _ _ _ _ _ us hl => match us, hl with | [_], _ => rfl
  have F1 := fun_mk (st := s_is_tie) l1 c1 k1
  have b1 := F1.binds (ps := ["thing", "many"]) fun _ _ _ _ _ _ us hl => match us, hl with | [_, _], _ => rfl
  have F2 := fun_mk (st := s_need_web) l2 c2 k2
  have b2 := F2.binds (ps := ["many", "ties"]) fun _ _ _ _ _ _ us hl => match us, hl with | [_, _], _ => rfl
  have F3 := fun_mk (st := s_near_of) l3 c3 k3
  have b3 := F3.binds (ps := ["many", "ties"]) fun _ _ _ _ _ _ us hl => match us, hl with | [_, _], _ => rfl
  have F4 := fun_mk (st := s_parts_among) l4 c4 k4
  have b4 := F4.binds (ps := ["near", "points"]) fun _ _ _ _ _ _ us hl => match us, hl with | [_, _], _ => rfl
  have F5 := fun_mk (st := s_need_most) l5 c5 k5
  have b5 := F5.binds (ps := ["many", "ties", "most"]) fun _ _ _ _ _ _ us hl => match us, hl with | [_, _, _], _ => rfl
  have F6 := fun_mk (st := s_around) l6 c6 k6
  have b6 := F6.binds (ps := ["near", "part"]) fun _ _ _ _ _ _ us hl => match us, hl with | [_, _], _ => rfl
  have F7 := fun_mk (st := s_without) l7 c7 k7
  have b7 := F7.binds (ps := ["part", "point"]) fun _ _ _ _ _ _ us hl => match us, hl with | [_, _], _ => rfl
  have F8 := fun_mk (st := s_first_of) l8 c8 k8
  have b8 := F8.binds (ps := ["near", "part", "most", "known"]) fun _ _ _ _ _ _ us hl => match us, hl with | [_, _, _, _], _ => rfl
  have F9 := fun_mk (st := s_laid) l9 c9 k9
  have b9 := F9.binds (ps := ["near", "parts", "known"]) fun _ _ _ _ _ _ us hl => match us, hl with | [_, _, _], _ => rfl
  have F10 := fun_mk (st := s_layout) l10 c10 k10
  have b10 := F10.binds (ps := ["many", "ties", "most"]) fun _ _ _ _ _ _ us hl => match us, hl with | [_, _, _], _ => rfl
  have F11 := fun_mk (st := s_least) l11 c11 k11
  have b11 := F11.binds (ps := ["many", "ties"]) fun _ _ _ _ _ _ us hl => match us, hl with | [_, _], _ => rfl
  have F12 := fun_mk (st := s_law_spread) l12 c12 k12
  have b12 := F12.binds (ps := ["_law_cell"]) fun _ _ _ _ _ _ us hl => match us, hl with | [_], _ => rfl
  have F13 := fun_mk (st := s_law_cell_at) l13 c13 k13
  have b13 := F13.binds (ps := ["_law_script", "_law_k"]) fun _ _ _ _ _ _ us hl => match us, hl with | [_, _], _ => rfl
  have F14 := fun_mk (st := s_law_whole) l14 c14 k14
  have b14 := F14.binds (ps := ["_law_seen"]) fun _ _ _ _ _ _ us hl => match us, hl with | [_], _ => rfl
  have F15 := fun_mk (st := s_law_tie) l15 c15 k15
  have b15 := F15.binds (ps := ["_law_cell", "_law_many"]) fun _ _ _ _ _ _ us hl => match us, hl with | [_, _], _ => rfl
  have F16 := fun_mk (st := s_law_ties) l16 c16 k16
  have b16 := F16.binds (ps := ["_law_cells", "_law_many"]) fun _ _ _ _ _ _ us hl => match us, hl with | [_, _], _ => rfl
  have F18 := fun_mk (st := s_law_laid_by) l18 c18 k18
  have b18 := F18.binds (ps := ["_law_many", "_law_ties_here", "_law_order"]) fun _ _ _ _ _ _ us hl => match us, hl with | [_, _, _], _ => rfl
  have F19 := fun_mk (st := s_law_each_order) l19 c19 k19
  have b19 := F19.binds (ps := ["_law_number", "_law_many"]) fun _ _ _ _ _ _ us hl => match us, hl with | [_, _], _ => rfl
  have F20 := fun_mk (st := s_law) l20 c20 k20
  have b20 := F20.binds (ps := ["_law_script"]) fun _ _ _ _ _ _ us hl => match us, hl with | [_], _ => rfl
  have T : Tx K mg (fun _ => 0) (fun i => match i with | 0 => f0 | 1 => f1 | 2 => f2 | 3 => f3 | 4 => f4 | 5 => f5 | 6 => f6 | 7 => f7 | 8 => f8 | 9 => f9 | 10 => f10 | 11 => f11 | 12 => f12 | 13 => f13 | 14 => f14 | 15 => f15 | 16 => f16 | 18 => f18 | 19 => f19 | _ => fa) (fun i => match i with | 0 => PySem.W.fnOf "is_whole" "is_whole" (defArgs s_is_whole) (defBody s_is_whole) (defScope s_is_whole) .none kV0 dc0 pm0 an0 cd0 ct0 | 1 => PySem.W.fnOf "is_tie" "is_tie" (defArgs s_is_tie) (defBody s_is_tie) (defScope s_is_tie) .none kV1 dc1 pm1 an1 cd1 ct1 | 2 => PySem.W.fnOf "need_web" "need_web" (defArgs s_need_web) (defBody s_need_web) (defScope s_need_web) .none kV2 dc2 pm2 an2 cd2 ct2 | 3 => PySem.W.fnOf "near_of" "near_of" (defArgs s_near_of) (defBody s_near_of) (defScope s_near_of) .none kV3 dc3 pm3 an3 cd3 ct3 | 4 => PySem.W.fnOf "parts_among" "parts_among" (defArgs s_parts_among) (defBody s_parts_among) (defScope s_parts_among) .none kV4 dc4 pm4 an4 cd4 ct4 | 5 => PySem.W.fnOf "need_most" "need_most" (defArgs s_need_most) (defBody s_need_most) (defScope s_need_most) .none kV5 dc5 pm5 an5 cd5 ct5 | 6 => PySem.W.fnOf "around" "around" (defArgs s_around) (defBody s_around) (defScope s_around) .none kV6 dc6 pm6 an6 cd6 ct6 | 7 => PySem.W.fnOf "without" "without" (defArgs s_without) (defBody s_without) (defScope s_without) .none kV7 dc7 pm7 an7 cd7 ct7 | 8 => PySem.W.fnOf "first_of" "first_of" (defArgs s_first_of) (defBody s_first_of) (defScope s_first_of) .none kV8 dc8 pm8 an8 cd8 ct8 | 9 => PySem.W.fnOf "laid" "laid" (defArgs s_laid) (defBody s_laid) (defScope s_laid) .none kV9 dc9 pm9 an9 cd9 ct9 | 10 => PySem.W.fnOf "layout" "layout" (defArgs s_layout) (defBody s_layout) (defScope s_layout) .none kV10 dc10 pm10 an10 cd10 ct10 | 11 => PySem.W.fnOf "least" "least" (defArgs s_least) (defBody s_least) (defScope s_least) .none kV11 dc11 pm11 an11 cd11 ct11 | 12 => PySem.W.fnOf "_law_spread" "_law_spread" (defArgs s_law_spread) (defBody s_law_spread) (defScope s_law_spread) .none kV12 dc12 pm12 an12 cd12 ct12 | 13 => PySem.W.fnOf "_law_cell_at" "_law_cell_at" (defArgs s_law_cell_at) (defBody s_law_cell_at) (defScope s_law_cell_at) .none kV13 dc13 pm13 an13 cd13 ct13 | 14 => PySem.W.fnOf "_law_whole" "_law_whole" (defArgs s_law_whole) (defBody s_law_whole) (defScope s_law_whole) .none kV14 dc14 pm14 an14 cd14 ct14 | 15 => PySem.W.fnOf "_law_tie" "_law_tie" (defArgs s_law_tie) (defBody s_law_tie) (defScope s_law_tie) .none kV15 dc15 pm15 an15 cd15 ct15 | 16 => PySem.W.fnOf "_law_ties" "_law_ties" (defArgs s_law_ties) (defBody s_law_ties) (defScope s_law_ties) .none kV16 dc16 pm16 an16 cd16 ct16 | 18 => PySem.W.fnOf "_law_laid_by" "_law_laid_by" (defArgs s_law_laid_by) (defBody s_law_laid_by) (defScope s_law_laid_by) .none kV18 dc18 pm18 an18 cd18 ct18 | 19 => PySem.W.fnOf "_law_each_order" "_law_each_order" (defArgs s_law_each_order) (defBody s_law_each_order) (defScope s_law_each_order) .none kV19 dc19 pm19 an19 cd19 ct19 | _ => PySem.W.fnOf "law" "law" (defArgs s_law) (defBody s_law) (defScope s_law) .none kV20 dc20 pm20 an20 cd20 ct20) := {
    f_is_whole := F0, b_is_whole := b0, g_is_whole := PySem.W.mg_of X G a0,
    f_is_tie := F1, b_is_tie := b1, g_is_tie := PySem.W.mg_of X G a1,
    f_need_web := F2, b_need_web := b2, g_need_web := PySem.W.mg_of X G a2,
    f_near_of := F3, b_near_of := b3, g_near_of := PySem.W.mg_of X G a3,
    f_parts_among := F4, b_parts_among := b4, g_parts_among := PySem.W.mg_of X G a4,
    f_need_most := F5, b_need_most := b5, g_need_most := PySem.W.mg_of X G a5,
    f_around := F6, b_around := b6, g_around := PySem.W.mg_of X G a6,
    f_without := F7, b_without := b7, g_without := PySem.W.mg_of X G a7,
    f_first_of := F8, b_first_of := b8, g_first_of := PySem.W.mg_of X G a8,
    f_laid := F9, b_laid := b9, g_laid := PySem.W.mg_of X G a9,
    f_layout := F10, b_layout := b10, g_layout := PySem.W.mg_of X G a10,
    f_least := F11, b_least := b11, g_least := PySem.W.mg_of X G a11,
    f_law_spread := F12, b_law_spread := b12, g_law_spread := PySem.W.mg_of X G a12,
    f_law_cell_at := F13, b_law_cell_at := b13, g_law_cell_at := PySem.W.mg_of X G a13,
    f_law_whole := F14, b_law_whole := b14, g_law_whole := PySem.W.mg_of X G a14,
    f_law_tie := F15, b_law_tie := b15, g_law_tie := PySem.W.mg_of X G a15,
    f_law_ties := F16, b_law_ties := b16, g_law_ties := PySem.W.mg_of X G a16,
    f_law_laid_by := F18, b_law_laid_by := b18, g_law_laid_by := PySem.W.mg_of X G a18,
    f_law_each_order := F19, b_law_each_order := b19, g_law_each_order := PySem.W.mg_of X G a19,
    f_law := F20, b_law := b20, g_law := PySem.W.mg_of X G a20,
    z_all := PySem.W.mg_none_of X G z_all,
    z_bool := PySem.W.mg_none_of X G z_bool,
    z_int := PySem.W.mg_none_of X G z_int,
    z_isinstance := PySem.W.mg_none_of X G z_isinstance,
    z_len := PySem.W.mg_none_of X G z_len,
    z_list := PySem.W.mg_none_of X G z_list,
    z_max := PySem.W.mg_none_of X G z_max,
    z_min := PySem.W.mg_none_of X G z_min,
    z_range := PySem.W.mg_none_of X G z_range,
    z_set := PySem.W.mg_none_of X G z_set,
    z_sorted := PySem.W.mg_none_of X G z_sorted,
    z_tuple := PySem.W.mg_none_of X G z_tuple,
    c_MOST_POINTS := ⟨_, PySem.W.mg_of X G v_MOST_POINTS⟩ }
  exact ⟨PySem.W.fnOf "law" "law" (defArgs s_law) (defBody s_law) (defScope s_law) .none kV20 dc20 pm20 an20 cd20 ct20, fun s v => .of_eq rfl, fun base _ _ => FnOk.ca (ok_law T)⟩
end B
open PySem PySem.W PyProof.Rows
set_option maxRecDepth 100000 in
set_option maxHeartbeats 0 in
theorem PySem.Challenge.cw_bagtree_k07_least_by_all_orders_holds : PySem.Challenge.rw_bagtree_k07_least_by_all_orders.Holds := by
  w_on; o_law; k_head; (case hw => w_witness2)
  k_fill
  refine B.walkD (l := PySem.Challenge.rw_bagtree_k07_least_by_all_orders) (ca := fun _ => 0) (k := 15) (x := "_law_script") B.g_law_k07 B.law_k07 (by decide) rfl rfl (fun w h Y => PySem.W.kIn_of Y) ?F
  case F =>
    intro w mg fa h KX G hmg
    refine' B.all_mk KX G hmg ?a0 ?l0 ?c0 ?k0 ?a1 ?l1 ?c1 ?k1 ?a2 ?l2 ?c2 ?k2 ?a3 ?l3 ?c3 ?k3 ?a4 ?l4 ?c4 ?k4 ?a5 ?l5 ?c5 ?k5 ?a6 ?l6 ?c6 ?k6 ?a7 ?l7 ?c7 ?k7 ?a8 ?l8 ?c8 ?k8 ?a9 ?l9 ?c9 ?k9 ?a10 ?l10 ?c10 ?k10 ?a11 ?l11 ?c11 ?k11 ?a12 ?l12 ?c12 ?k12 ?a13 ?l13 ?c13 ?k13 ?a14 ?l14 ?c14 ?k14 ?a15 ?l15 ?c15 ?k15 ?a16 ?l16 ?c16 ?k16 ?a18 ?l18 ?c18 ?k18 ?a19 ?l19 ?c19 ?k19 ?a20 ?l20 ?c20 ?k20 ?z_all ?z_bool ?z_int ?z_isinstance ?z_len ?z_list ?z_max ?z_min ?z_range ?z_set ?z_sorted ?z_tuple ?v_MOST_POINTS
    (case a0 => k_is)
    (case l0 => k_is)
    (case c0 => k_is)
    (case k0 => k_is)
    (case a1 => k_is)
    (case l1 => k_is)
    (case c1 => k_is)
    (case k1 => k_is)
    (case a2 => k_is)
    (case l2 => k_is)
    (case c2 => k_is)
    (case k2 => k_is)
    (case a3 => k_is)
    (case l3 => k_is)
    (case c3 => k_is)
    (case k3 => k_is)
    (case a4 => k_is)
    (case l4 => k_is)
    (case c4 => k_is)
    (case k4 => k_is)
    (case a5 => k_is)
    (case l5 => k_is)
    (case c5 => k_is)
    (case k5 => k_is)
    (case a6 => k_is)
    (case l6 => k_is)
    (case c6 => k_is)
    (case k6 => k_is)
    (case a7 => k_is)
    (case l7 => k_is)
    (case c7 => k_is)
    (case k7 => k_is)
    (case a8 => k_is)
    (case l8 => k_is)
    (case c8 => k_is)
    (case k8 => k_is)
    (case a9 => k_is)
    (case l9 => k_is)
    (case c9 => k_is)
    (case k9 => k_is)
    (case a10 => k_is)
    (case l10 => k_is)
    (case c10 => k_is)
    (case k10 => k_is)
    (case a11 => k_is)
    (case l11 => k_is)
    (case c11 => k_is)
    (case k11 => k_is)
    (case a12 => k_is)
    (case l12 => k_is)
    (case c12 => k_is)
    (case k12 => k_is)
    (case a13 => k_is)
    (case l13 => k_is)
    (case c13 => k_is)
    (case k13 => k_is)
    (case a14 => k_is)
    (case l14 => k_is)
    (case c14 => k_is)
    (case k14 => k_is)
    (case a15 => k_is)
    (case l15 => k_is)
    (case c15 => k_is)
    (case k15 => k_is)
    (case a16 => k_is)
    (case l16 => k_is)
    (case c16 => k_is)
    (case k16 => k_is)
    (case a18 => k_is)
    (case l18 => k_is)
    (case c18 => k_is)
    (case k18 => k_is)
    (case a19 => k_is)
    (case l19 => k_is)
    (case c19 => k_is)
    (case k19 => k_is)
    (case a20 => k_is)
    (case l20 => k_is)
    (case c20 => k_is)
    (case k20 => k_is)
    (case z_all => k_is)
    (case z_bool => k_is)
    (case z_int => k_is)
    (case z_isinstance => k_is)
    (case z_len => k_is)
    (case z_list => k_is)
    (case z_max => k_is)
    (case z_min => k_is)
    (case z_range => k_is)
    (case z_set => k_is)
    (case z_sorted => k_is)
    (case z_tuple => k_is)
    (case v_MOST_POINTS => k_is)

