import PyProof.Rows.All
import Wide.All
import OpenK.AllK
import Wide.FinOn
import HandS.ForMost
import HandS.Zip
import HandS.TupAny
import HandS.Flow
import HandS.IsInst
import HandS.Conv
import HandS.Wide
import HandS.Style
import HandS.Deep
import KE.GoesNew
import KE.GoesMore

import PySem.Challenge.RW_cutback_k03_one_step
set_option Elab.async false
set_option linter.all false
set_option maxRecDepth 100000
set_option maxHeartbeats 4000000
namespace Cb
open PySem L2

/-! ## data, without addresses -/
inductive D where
  | non | bl (b : Bool) | int (i : Int) | str (x : Str)
  | tup (xs : List D) | lst (xs : List D) | scr (ns : List Int) | dic (ks : List (Key × D)) | ref (n : Nat)
inductive O where
  | lst (xs : List D) | dic (ks : List (Key × D)) | ins (fs : List (Str × D))
instance : Inhabited D := ⟨.non⟩

/-- the law's list: never written -/
def SqF (K : PySem.W.Frag) (H : Hp) (a : Addr) (xs : List V) : Prop :=
  (∃ o, H a = some (.frz o (.lst xs))) ∨
    ∃ (o : Obj) (its : Array Value) (n : Nat), K.lookup a = some o ∧ o.cls = .type "list" ∧ o.dict = none ∧ o.data = .seq its n ∧ its.size ≤ sizeLine ∧ Vals xs its.toList
theorem SqF.sq {K : PySem.W.Frag} {H : Hp} {a : Addr} {xs : List V} (h : SqF K H a xs) : SqL K H a xs := by
  rcases h with h | h
  · exact .inl (.inr h)
  · exact .inr h

/-- the addresses of the changing objects, by number; those that are hidden (a comprehension's list while it grows) -/
structure M where
  l : List Addr
  b : List Addr
def M.has (m : M) (a : Addr) : Prop := a ∈ m.l ∨ a ∈ m.b
def M.add (m : M) (a : Addr) : M := ⟨m.l ++ [a], m.b⟩
def M.hide (m : M) (a : Addr) : M := ⟨m.l, a :: m.b⟩

mutual
inductive Rp (K : PySem.W.Frag) (m : M) (H : Hp) : V → D → Prop
  | non : Rp K m H .non .non
  | bl (b : Bool) : Rp K m H (.bl b) (.bl b)
  | int (i : Int) : Rp K m H (.int i) (.int i)
  | str (x : Str) : Rp K m H (.str x) (.str x)
  | tup {a : Addr} {xs : List V} {ds : List D} : SqT K H a xs → RpAll K m H xs ds → Rp K m H (.ref a) (.tup ds)
  | lst {a : Addr} {xs : List V} {ds : List D} : H a = some (.lst xs) → ¬ m.has a → RpAll K m H xs ds → Rp K m H (.ref a) (.lst ds)
  | scr {a : Addr} {ns : List Int} : SqF K H a (ns.map V.int) → Rp K m H (.ref a) (.scr ns)
  | dic {a : Addr} {kvs : List (Key × V)} {ks : List (Key × D)} : H a = some (.dK kvs) → ¬ m.has a → kvs.map (·.1) = ks.map (·.1) → RpAll K m H (kvs.map (·.2)) (ks.map (·.2)) → Rp K m H (.ref a) (.dic ks)
  | ref {a : Addr} {n : Nat} : m.l[n]? = some a → Rp K m H (.ref a) (.ref n)
inductive RpAll (K : PySem.W.Frag) (m : M) (H : Hp) : List V → List D → Prop
  | nil : RpAll K m H [] []
  | cons {v : V} {vs : List V} {d : D} {ds : List D} : Rp K m H v d → RpAll K m H vs ds → RpAll K m H (v :: vs) (d :: ds)
end

/-- what may happen to a heap and its changing objects -/
structure Ev (m : M) (H : Hp) (m' : M) (H' : Hp) : Prop where
  pre : ∃ l, m'.l = m.l ++ l
  hid : m'.b = m.b
  new : ∀ a, a ∈ m'.l → a ∈ m.l ∨ H a = none
  keep : ∀ a o, H a = some o → a ∉ m.l → H' a = some o
  tup : ∀ a xs, H a = some (.tup xs) → H' a = some (.tup xs)
  frz : ∀ a o u, H a = some (.frz o u) → H' a = some (.frz o u)

section
variable {K : PySem.W.Frag} {m m' m'' : M} {H H' H'' : Hp}
theorem Ev.refl : Ev m H m H := ⟨⟨[], by simp⟩, rfl, fun _ h => .inl h, fun _ _ h _ => h, fun _ _ h => h, fun _ _ _ h => h⟩
theorem Ev.trans (a : Ev m H m' H') (b : Ev m' H' m'' H'') : Ev m H m'' H'' where
  pre := by
    obtain ⟨l, e⟩ := a.pre
    obtain ⟨l', e'⟩ := b.pre
    exact ⟨l ++ l', by rw [e', e, List.append_assoc]⟩
  hid := b.hid.trans a.hid
  new := fun x hx => by
    rcases b.new x hx with h | h
    · exact a.new x h
    · by_cases hm : x ∈ m.l
      · exact .inl hm
      · cases e : H x with
        | none => exact .inr rfl
        | some o => rw [a.keep x o e hm] at h; cases h
  keep := fun x o h hm => by
    have h1 := a.keep x o h hm
    refine b.keep x o h1 fun hx => ?_
    rcases a.new x hx with q | q
    · exact hm q
    · rw [h] at q; cases q
  tup := fun x xs h => b.tup x xs (a.tup x xs h)
  frz := fun x o u h => b.frz x o u (a.frz x o u h)
/-- a new object, not a changing one -/
theorem Ev.lay {p : Addr} {o : HO} (h : H p = none) : Ev m H m (upd H p o) :=
  ⟨⟨[], by simp⟩, rfl, fun _ h => .inl h, fun a u q _ => by rw [upd_ne (ne_of_none q h)]; exact q, fun a u q => by rw [upd_ne (ne_of_none q h)]; exact q, fun a u v q => by rw [upd_ne (ne_of_none q h)]; exact q⟩
/-- a new object is made a changing one -/
theorem Ev.add {p : Addr} (e : Ev m H m' H') (h : H p = none) : Ev m H (m'.add p) H' where
  pre := by
    obtain ⟨l, q⟩ := e.pre
    exact ⟨l ++ [p], by show m'.l ++ [p] = _; rw [q, List.append_assoc]⟩
  hid := e.hid
  new := fun a ha => by
    rcases List.mem_append.mp ha with q | q
    · exact e.new a q
    · rw [List.mem_singleton] at q; subst q; exact .inr h
  keep := e.keep
  tup := e.tup
  frz := e.frz
/-- a changing object is changed -/
theorem Ev.set {p : Addr} {o u : HO} (hp : p ∈ m.l) (h : H p = some u) (ht : ∀ xs, u ≠ .tup xs) (hf : ∀ o v, u ≠ .frz o v) : Ev m H m (upd H p o) :=
  ⟨⟨[], by simp⟩, rfl, fun _ h => .inl h, fun a v q hm => by rw [upd_ne (fun e => hm (by rw [e]; exact hp))]; exact q,
    fun a v q => by
      rw [upd_ne (fun e => by subst e; rw [h] at q; exact ht _ (Option.some.inj q))]; exact q,
    fun a v w q => by
      rw [upd_ne (fun e => by subst e; rw [h] at q; exact hf _ _ (Option.some.inj q))]; exact q⟩
theorem Ev.sqT (e : Ev m H m' H') {a : Addr} {xs : List V} (h : SqT K H a xs) : SqT K H' a xs := by
  rcases h with (h | ⟨o, h⟩) | h
  · exact .inl (.inl (e.tup _ _ h))
  · exact .inl (.inr ⟨o, e.frz _ _ _ h⟩)
  · exact .inr h
theorem Ev.sqF (e : Ev m H m' H') {a : Addr} {xs : List V} (h : SqF K H a xs) : SqF K H' a xs := by
  rcases h with ⟨o, h⟩ | h
  · exact .inl ⟨o, e.frz _ _ _ h⟩
  · exact .inr h
theorem Ev.notin (e : Ev m H m' H') {a : Addr} {o : HO} (h : H a = some o) (hm : ¬ m.has a) : ¬ m'.has a := fun q => by
  rcases q with q | q
  · rcases e.new a q with x | x
    · exact hm (.inl x)
    · rw [h] at x; cases x
  · rw [e.hid] at q
    exact hm (.inr q)
theorem Ev.at (e : Ev m H m' H') {n : Nat} {a : Addr} (h : m.l[n]? = some a) : m'.l[n]? = some a := by
  obtain ⟨l, q⟩ := e.pre
  rw [q]
  have hl : n < m.l.length := (List.getElem?_eq_some_iff.mp h).1
  rw [List.getElem?_append_left hl]
  exact h
mutual
theorem Rp.ev (e : Ev m H m' H') : ∀ {v : V} {d : D}, Rp K m H v d → Rp K m' H' v d
  | _, _, .non => .non
  | _, _, .bl b => .bl b
  | _, _, .int i => .int i
  | _, _, .str x => .str x
  | _, _, .tup h r => .tup (e.sqT h) (RpAll.ev e r)
  | _, _, .lst h n r => .lst (e.keep _ _ h fun z => n (.inl z)) (e.notin h n) (RpAll.ev e r)
  | _, _, .scr h => .scr (e.sqF h)
  | _, _, .dic h n k r => .dic (e.keep _ _ h fun z => n (.inl z)) (e.notin h n) k (RpAll.ev e r)
  | _, _, .ref h => .ref (e.at h)
theorem RpAll.ev (e : Ev m H m' H') : ∀ {vs : List V} {ds : List D}, RpAll K m H vs ds → RpAll K m' H' vs ds
  | _, _, .nil => .nil
  | _, _, .cons r rs => .cons (Rp.ev e r) (RpAll.ev e rs)
end
theorem RpAll.length : ∀ {vs : List V} {ds : List D}, RpAll K m H vs ds → vs.length = ds.length
  | _, _, .nil => rfl
  | _, _, .cons _ rs => by simp [RpAll.length rs]
theorem RpAll.get : ∀ {vs : List V} {ds : List D} {i : Nat} {d : D}, RpAll K m H vs ds → ds[i]? = some d → ∃ v, vs[i]? = some v ∧ Rp K m H v d
  | _, _, _, _, .nil, h => by simp at h
  | _, _, 0, _, .cons r _, h => ⟨_, rfl, by simp at h; subst h; exact r⟩
  | _, _, i + 1, _, .cons _ rs, h => by
    obtain ⟨v, h1, h2⟩ := RpAll.get (i := i) rs (by simpa using h)
    exact ⟨v, by simpa using h1, h2⟩
theorem RpAll.get' : ∀ {vs : List V} {ds : List D} {i : Nat} {v : V}, RpAll K m H vs ds → vs[i]? = some v → ∃ d, ds[i]? = some d ∧ Rp K m H v d
  | _, _, _, _, .nil, h => by simp at h
  | _, _, 0, _, .cons r _, h => ⟨_, rfl, by simp at h; subst h; exact r⟩
  | _, _, i + 1, _, .cons _ rs, h => by
    obtain ⟨v, h1, h2⟩ := RpAll.get' (i := i) rs (by simpa using h)
    exact ⟨v, by simpa using h1, h2⟩
theorem RpAll.append : ∀ {vs ws : List V} {ds es : List D}, RpAll K m H vs ds → RpAll K m H ws es → RpAll K m H (vs ++ ws) (ds ++ es)
  | _, _, _, _, .nil, s => s
  | _, _, _, _, .cons r rs, s => .cons r (RpAll.append rs s)
theorem RpAll.take : ∀ {vs : List V} {ds : List D} (n : Nat), RpAll K m H vs ds → RpAll K m H (vs.take n) (ds.take n)
  | _, _, 0, _ => .nil
  | _, _, _ + 1, .nil => .nil
  | _, _, n + 1, .cons r rs => .cons r (RpAll.take n rs)
theorem RpAll.drop : ∀ {vs : List V} {ds : List D} (n : Nat), RpAll K m H vs ds → RpAll K m H (vs.drop n) (ds.drop n)
  | _, _, 0, r => r
  | _, _, _ + 1, .nil => .nil
  | _, _, n + 1, .cons _ rs => RpAll.drop n rs
theorem RpAll.reverse {vs : List V} {ds : List D} (h : RpAll K m H vs ds) : RpAll K m H vs.reverse ds.reverse := by
  induction vs generalizing ds with
  | nil => cases h; exact .nil
  | cons v vs ih =>
    cases h with
    | cons r rs =>
      rw [List.reverse_cons, List.reverse_cons]
      exact (ih rs).append (.cons r .nil)
theorem RpAll.set {v : V} {d : D} (r : Rp K m H v d) : ∀ {vs : List V} {ds : List D} (i : Nat), RpAll K m H vs ds → RpAll K m H (vs.set i v) (ds.set i d)
  | _, _, _, .nil => .nil
  | _, _, 0, .cons _ t => .cons r t
  | _, _, i + 1, .cons q t => .cons q (RpAll.set r i t)
theorem RpAll.ints : ∀ (ns : List Int), RpAll K m H (ns.map V.int) (ns.map D.int)
  | [] => .nil
  | n :: ns => .cons (.int n) (RpAll.ints ns)
theorem RpAll.strs : ∀ (ns : List Str), RpAll K m H (ns.map V.str) (ns.map D.str)
  | [] => .nil
  | n :: ns => .cons (.str n) (RpAll.strs ns)

mutual
/-- other numbers, other hidden ones: as long as the same addresses are met -/
theorem Rp.re (hl : ∀ (n : Nat) a, m.l[n]? = some a → m'.l[n]? = some a) (hb : ∀ a, ¬ m.has a → ¬ m'.has a) : ∀ {v : V} {d : D}, Rp K m H v d → Rp K m' H v d
  | _, _, .non => .non
  | _, _, .bl b => .bl b
  | _, _, .int i => .int i
  | _, _, .str x => .str x
  | _, _, .tup h r => .tup h (RpAll.re hl hb r)
  | _, _, .lst h n r => .lst h (hb _ n) (RpAll.re hl hb r)
  | _, _, .scr h => .scr h
  | _, _, .dic h n k r => .dic h (hb _ n) k (RpAll.re hl hb r)
  | _, _, .ref h => .ref (hl _ _ h)
theorem RpAll.re (hl : ∀ (n : Nat) a, m.l[n]? = some a → m'.l[n]? = some a) (hb : ∀ a, ¬ m.has a → ¬ m'.has a) : ∀ {vs : List V} {ds : List D}, RpAll K m H vs ds → RpAll K m' H vs ds
  | _, _, .nil => .nil
  | _, _, .cons r rs => .cons (Rp.re hl hb r) (RpAll.re hl hb rs)
end
mutual
/-- a new address is hidden, the heap above stays -/
theorem Rp.hide {p : Addr} (hp : H p = none) (e : Ev m H m H') : ∀ {v : V} {d : D}, Rp K m H v d → Rp K (m.hide p) H' v d
  | _, _, .non => .non
  | _, _, .bl b => .bl b
  | _, _, .int i => .int i
  | _, _, .str x => .str x
  | _, _, .tup h r => .tup (e.sqT h) (RpAll.hide hp e r)
  | _, _, .lst h n r => .lst (e.keep _ _ h fun z => n (.inl z)) (fun z => by
      rcases z with z | z
      · exact n (.inl z)
      · rcases List.mem_cons.mp z with q | q
        · subst q; rw [h] at hp; cases hp
        · exact n (.inr q)) (RpAll.hide hp e r)
  | _, _, .scr h => .scr (e.sqF h)
  | _, _, .dic h n k r => .dic (e.keep _ _ h fun z => n (.inl z)) (fun z => by
      rcases z with z | z
      · exact n (.inl z)
      · rcases List.mem_cons.mp z with q | q
        · subst q; rw [h] at hp; cases hp
        · exact n (.inr q)) k (RpAll.hide hp e r)
  | _, _, .ref h => .ref h
theorem RpAll.hide {p : Addr} (hp : H p = none) (e : Ev m H m H') : ∀ {vs : List V} {ds : List D}, RpAll K m H vs ds → RpAll K (m.hide p) H' vs ds
  | _, _, .nil => .nil
  | _, _, .cons r rs => .cons (Rp.hide hp e r) (RpAll.hide hp e rs)
end
/-- one changing object -/
def RO (C : Addr) (K : PySem.W.Frag) (m : M) (H : Hp) (a : Addr) : O → Prop
  | .lst ds => ∃ xs, H a = some (.lst xs) ∧ RpAll K m H xs ds
  | .dic ks => ∃ kvs, H a = some (.dK kvs) ∧ kvs.map (·.1) = ks.map (·.1) ∧ RpAll K m H (kvs.map (·.2)) (ks.map (·.2))
  | .ins fs => ∃ dx gs, H a = some (.ins C dx gs) ∧ gs.map (·.1) = fs.map (·.1) ∧ RpAll K m H (gs.map (·.2)) (fs.map (·.2))
structure SR (C : Addr) (K : PySem.W.Frag) (m : M) (H : Hp) (S : List O) : Prop where
  nd : m.l.Nodup
  len : m.l.length = S.length
  obj : ∀ (n : Nat) a o, m.l[n]? = some a → S[n]? = some o → RO C K m H a o
  hid : ∀ a, a ∈ m.b → H a ≠ none
  apt : ∀ a, a ∈ m.b → a ∉ m.l
theorem RO.ev {C a : Addr} {o : O} (e : Ev m H m' H') (h : RO C K m H a o) (k : H' a = H a) : RO C K m' H' a o := by
  cases o with
  | lst ds => obtain ⟨xs, h1, h2⟩ := h; exact ⟨xs, by rw [k]; exact h1, h2.ev e⟩
  | dic ks => obtain ⟨xs, h1, h2, h3⟩ := h; exact ⟨xs, by rw [k]; exact h1, h2, h3.ev e⟩
  | ins fs => obtain ⟨dx, gs, h1, h2, h3⟩ := h; exact ⟨dx, gs, by rw [k]; exact h1, h2, h3.ev e⟩
theorem RO.some {C a : Addr} {o : O} (h : RO C K m H a o) : ∃ u, H a = some u := by
  cases o with
  | lst ds => obtain ⟨xs, h1, h2⟩ := h; exact ⟨_, h1⟩
  | dic ks => obtain ⟨xs, h1, h2, h3⟩ := h; exact ⟨_, h1⟩
  | ins fs => obtain ⟨dx, gs, h1, h2, h3⟩ := h; exact ⟨_, h1⟩
theorem SR.mem {C : Addr} {S : List O} (s : SR C K m H S) {a : Addr} (h : a ∈ m.l) : ∃ (n : Nat) (o : O), m.l[n]? = some a ∧ S[n]? = some o ∧ RO C K m H a o := by
  obtain ⟨n, hn, e⟩ := List.mem_iff_getElem.mp h
  have h1 : m.l[n]? = some a := by rw [List.getElem?_eq_getElem hn, e]
  have hn2 : n < S.length := by rw [← s.len]; exact hn
  exact ⟨n, S[n], h1, List.getElem?_eq_getElem hn2, s.obj n a _ h1 (List.getElem?_eq_getElem hn2)⟩
theorem SR.notl {C : Addr} {S : List O} (s : SR C K m H S) {p : Addr} (h : H p = none) : p ∉ m.l := fun q => by
  obtain ⟨n, o, _, _, r⟩ := s.mem q
  obtain ⟨u, e⟩ := r.some
  rw [h] at e; cases e
theorem SR.notin {C : Addr} {S : List O} (s : SR C K m H S) {p : Addr} (h : H p = none) : ¬ m.has p := fun q => by
  rcases q with q | q
  · exact s.notl h q
  · exact s.hid p q h
theorem SR.nottup {C : Addr} {S : List O} (s : SR C K m H S) {a : Addr} (q : a ∈ m.l) : ∃ u, H a = some u ∧ (∀ xs, u ≠ .tup xs) ∧ ∀ o v, u ≠ .frz o v := by
  obtain ⟨n, o, _, _, r⟩ := s.mem q
  cases o with
  | lst ds => obtain ⟨xs, h1, h2⟩ := r; exact ⟨_, h1, (fun _ z => nomatch z), fun _ _ z => nomatch z⟩
  | dic ks => obtain ⟨xs, h1, h2, h3⟩ := r; exact ⟨_, h1, (fun _ z => nomatch z), fun _ _ z => nomatch z⟩
  | ins fs => obtain ⟨dx, gs, h1, h2, h3⟩ := r; exact ⟨_, h1, (fun _ z => nomatch z), fun _ _ z => nomatch z⟩
/-- a new object leaves the changing ones as they were -/
theorem SR.lay {C : Addr} {S : List O} (s : SR C K m H S) {p : Addr} {o : HO} (h : H p = none) : SR C K m (upd H p o) S :=
  ⟨s.nd, s.len, fun n a o' h1 h2 => by
    have r := s.obj n a o' h1 h2
    obtain ⟨u, e⟩ := r.some
    exact r.ev (.lay h) (upd_ne (ne_of_none e h)), fun a ha => by
      by_cases e : a = p
      · rw [e, upd_same]; exact fun z => nomatch z
      · rw [upd_ne e]; exact s.hid a ha, s.apt⟩
theorem nodup_snoc {α : Type} {l : List α} {a : α} (h : l.Nodup) (hm : a ∉ l) : (l ++ [a]).Nodup := by
  rw [List.nodup_append]
  exact ⟨h, by simp, fun x hx y hy => by rw [List.mem_singleton] at hy; subst hy; exact fun e => hm (e ▸ hx)⟩
theorem add_at (m : M) {n : Nat} {a p : Addr} (h : m.l[n]? = Option.some a) : (m.add p).l[n]? = Option.some a := by
  have hl : n < m.l.length := (List.getElem?_eq_some_iff.mp h).1
  show (m.l ++ [p])[n]? = _
  rw [List.getElem?_append_left hl]
  exact h
/-- an object that stands already is made a changing one -/
theorem SR.add {C : Addr} {S : List O} (s : SR C K m H S) {p : Addr} {ob : O} (hp : ¬ m.has p) (hb : ∀ (n : Nat) a o, m.l[n]? = some a → S[n]? = some o → RO C K (m.add p) H a o) (new : RO C K (m.add p) H p ob) : SR C K (m.add p) H (S ++ [ob]) where
  nd := nodup_snoc s.nd fun z => hp (.inl z)
  len := by show (m.l ++ [p]).length = _; simp [s.len]
  obj := fun n a o' h1 h2 => by
    have h1 : (m.l ++ [p])[n]? = Option.some a := h1
    by_cases hn : n < m.l.length
    · rw [List.getElem?_append_left hn] at h1
      rw [List.getElem?_append_left (by rw [← s.len]; exact hn)] at h2
      exact hb n a o' h1 h2
    · have hn' : n = m.l.length := by
        have := (List.getElem?_eq_some_iff.mp h1).1
        simp at this; omega
      subst hn'
      simp at h1
      rw [s.len] at h2
      simp at h2
      subst h1; subst h2
      exact new
  hid := s.hid
  apt := fun a ha z => by
    rcases List.mem_append.mp z with q | q
    · exact s.apt a ha q
    · rw [List.mem_singleton] at q; subst q; exact hp (.inr ha)
theorem has_add (m : M) {p a : Addr} (hn : ¬ m.has a) (hne : a ≠ p) : ¬ (m.add p).has a := fun z => by
  rcases z with z | z
  · rcases List.mem_append.mp z with q | q
    · exact hn (.inl q)
    · rw [List.mem_singleton] at q; exact hne q
  · exact hn (.inr z)
/-- laid and made a changing one at once -/
theorem Ev.layM {p : Addr} {o : HO} (h : H p = Option.none) : Ev m H (m.add p) (upd H p o) := (Ev.lay h).add h
theorem SR.layM {C : Addr} {S : List O} (s : SR C K m H S) {p : Addr} {o : HO} {ob : O} (h : H p = Option.none) (new : RO C K (m.add p) (upd H p o) p ob) : SR C K (m.add p) (upd H p o) (S ++ [ob]) :=
  (s.lay h).add (s.notin h) (fun n a o' h1 h2 => by
    have r := s.obj n a o' h1 h2
    obtain ⟨u, e⟩ := r.some
    exact r.ev (.layM h) (upd_ne (ne_of_none e h))) new
theorem SR.put {C : Addr} {S : List O} (s : SR C K m H S) {n : Nat} {p : Addr} {o : HO} {ob : O} (hp : m.l[n]? = Option.some p) (new : RO C K m (upd H p o) p ob) : SR C K m (upd H p o) (S.set n ob) where
  nd := s.nd
  len := by simp [s.len]
  obj := fun j a o' h1 h2 => by
    have hmem : p ∈ m.l := List.mem_of_getElem? hp
    obtain ⟨u, hu, ht, hf⟩ := s.nottup hmem
    have hn : n < m.l.length := (List.getElem?_eq_some_iff.mp hp).1
    by_cases hj : j = n
    · subst hj
      rw [hp] at h1
      cases h1
      rw [List.getElem?_set_self (by rw [← s.len]; exact hn)] at h2
      cases h2
      exact new
    · have hne : a ≠ p := fun e => by
        subst e
        exact hj (nd_ix s.nd h1 hp)
      rw [List.getElem?_set_ne (fun e => hj e.symm)] at h2
      exact (s.obj j a o' h1 h2).ev (.set hmem hu ht hf) (upd_ne hne)
  hid := fun a ha => by
    by_cases e : a = p
    · rw [e, upd_same]; exact fun z => nomatch z
    · rw [upd_ne e]; exact s.hid a ha
  apt := s.apt

/-! ## the slots -/
abbrev Sl := List (Option D)
structure ER (K : PySem.W.Frag) (m : M) (H : Hp) (σ : L2.St) (δ : Sl) : Prop where
  len : σ.length = δ.length
  get : ∀ (i : Nat) d, δ[i]? = some (some d) → ∃ v, σ[i]? = some (some v) ∧ Rp K m H v d
theorem ER.ev {σ : L2.St} {δ : Sl} (e : Ev m H m' H') (h : ER K m H σ δ) : ER K m' H' σ δ :=
  ⟨h.len, fun i d q => let ⟨v, a, b⟩ := h.get i d q; ⟨v, a, b.ev e⟩⟩
theorem ER.set {σ : L2.St} {δ : Sl} {v : V} {d : D} (h : ER K m H σ δ) (i : Nat) (r : Rp K m H v d) : ER K m H (σ.set i (some v)) (δ.set i (some d)) :=
  ⟨by simp [h.len], fun j d' q => by
    by_cases hj : i = j
    · subst hj
      by_cases hl : i < δ.length
      · rw [List.getElem?_set_self hl] at q
        cases q
        exact ⟨v, List.getElem?_set_self (by rw [h.len]; exact hl), r⟩
      · rw [List.getElem?_eq_none (by simp; omega)] at q
        cases q
    · rw [List.getElem?_set_ne hj] at q ⊢
      exact h.get j d' q⟩
theorem ER.unset {σ : L2.St} {δ : Sl} (h : ER K m H σ δ) (i : Nat) : ER K m H (σ.set i none) (δ.set i none) :=
  ⟨by simp [h.len], fun j d' q => by
    by_cases hj : i = j
    · subst hj
      by_cases hl : i < δ.length
      · rw [List.getElem?_set_self hl] at q
        cases q
      · rw [List.getElem?_eq_none (by simp; omega)] at q
        cases q
    · rw [List.getElem?_set_ne hj] at q ⊢
      exact h.get j d' q⟩
end
end Cb
namespace Cb
open PySem L2

/-! ## what a reading does to data -/
abbrev E := Sl → List O → Option (D × List O)
abbrev T := Sl → List O → Option (Bool × List O)
abbrev A := Sl → List O → Option (List D × List O)
inductive Out where
  | nx (δ : Sl) (S : List O) | rt (d : D) (S : List O) | bk (δ : Sl) (S : List O) | ct (δ : Sl) (S : List O)
abbrev B := Sl → List O → Option Out

def ESem (C : Addr) (K : PySem.W.Frag) (t : TE) (f : E) : Prop := ∀ m σ H δ S d S' Q, ER K m H σ δ → SR C K m H S → f δ S = some (d, S') →
  (∀ v m' H', Ev m H m' H' → SR C K m' H' S' → Rp K m' H' v d → Q v H') → t σ H Q
def TSem (C : Addr) (K : PySem.W.Frag) (t : TT) (f : T) : Prop := ∀ m σ H δ S b S' Q, ER K m H σ δ → SR C K m H S → f δ S = some (b, S') →
  (∀ m' H', Ev m H m' H' → SR C K m' H' S' → Q b H') → t σ H Q
def ASem (C : Addr) (K : PySem.W.Frag) (t : TA) (f : A) : Prop := ∀ m σ H δ S ds S' Q, ER K m H σ δ → SR C K m H S → f δ S = some (ds, S') →
  (∀ vs m' H', Ev m H m' H' → SR C K m' H' S' → RpAll K m' H' vs ds → Q vs H') → t σ H Q
/-- a new list; a new dict -/
def LSem (C : Addr) (K : PySem.W.Frag) (t : TE) (f : A) : Prop := ∀ m σ H δ S ds S' Q, ER K m H σ δ → SR C K m H S → f δ S = some (ds, S') →
  (∀ p xs m' H', Ev m H m' H' → H p = none → H' p = some (.lst xs) → SR C K (m'.hide p) H' S' → RpAll K (m'.hide p) H' xs ds → Q (.ref p) H') → t σ H Q
abbrev DD := Sl → List O → Option (List (Key × D) × List O)
def DSem (C : Addr) (K : PySem.W.Frag) (t : TE) (f : DD) : Prop := ∀ m σ H δ S ds S' Q, ER K m H σ δ → SR C K m H S → f δ S = some (ds, S') →
  (∀ p kvs m' H', Ev m H m' H' → H p = none → H' p = some (.dK kvs) → SR C K (m'.hide p) H' S' → kvs.map (·.1) = ds.map (·.1) → RpAll K (m'.hide p) H' (kvs.map (·.2)) (ds.map (·.2)) → Q (.ref p) H') → t σ H Q
section
variable {C : Addr} {K : PySem.W.Frag} {m m' : M} {H H' : Hp} {S S' : List O} {p : Addr} {o : HO}
theorem RO.mp {m2 : M} {H2 : Hp} {a : Addr} {ob : O} (h : RO C K m H a ob) (k : H2 a = H a) (f : ∀ {vs : List V} {ds : List D}, RpAll K m H vs ds → RpAll K m2 H2 vs ds) : RO C K m2 H2 a ob := by
  cases ob with
  | lst ds => obtain ⟨xs, h1, h2⟩ := h; exact ⟨xs, by rw [k]; exact h1, f h2⟩
  | dic ks => obtain ⟨xs, h1, h2, h3⟩ := h; exact ⟨xs, by rw [k]; exact h1, h2, f h3⟩
  | ins fs => obtain ⟨dx, gs, h1, h2, h3⟩ := h; exact ⟨dx, gs, by rw [k]; exact h1, h2, f h3⟩
theorem SR.hideLay (s : SR C K m H S) (hp : H p = none) : SR C K (m.hide p) (upd H p o) S where
  nd := s.nd
  len := s.len
  obj := fun n a ob h1 h2 => by
    have r := s.obj n a ob h1 h2
    obtain ⟨u, e⟩ := r.some
    exact r.mp (upd_ne (ne_of_none e hp)) (RpAll.hide hp (.lay hp))
  hid := fun a ha => by
    by_cases e : a = p
    · rw [e, upd_same]; exact fun z => nomatch z
    · rw [upd_ne e]
      rcases List.mem_cons.mp ha with q | q
      · exact absurd q e
      · exact s.hid a q
  apt := fun a ha => by
    rcases List.mem_cons.mp ha with q | q
    · rw [q]; exact s.notl hp
    · exact s.apt a q
theorem Ev.free (e : Ev m H m' H') (s : SR C K m' H' S') (h : H' p = none) : H p = none := by
  cases q : H p with
  | none => rfl
  | some u =>
    by_cases hm : p ∈ m.l
    · obtain ⟨l, el⟩ := e.pre
      exact absurd (by rw [el]; exact List.mem_append_left _ hm) (s.notl h)
    · rw [e.keep p u q hm] at h; cases h
/-- a new thing, seen from where all began: it is no hidden and no changing one -/
theorem new_has (e : Ev m H m' H') (s0 : SR C K m H S) (hp : H p = none) (s : SR C K (m'.hide p) H' S') : ¬ m'.has p := fun z => by
  rcases z with z | z
  · exact s.apt p List.mem_cons_self z
  · rw [e.hid] at z
    exact s0.hid p z hp
theorem unhide {vs : List V} {ds : List D} (r : RpAll K (m.hide p) H vs ds) : RpAll K m H vs ds := RpAll.re (m := m.hide p) (m' := m) (fun _ _ h => h) (fun a n z => n (by
  rcases z with z | z
  · exact .inl z
  · exact .inr (List.mem_cons_of_mem _ z))) r
theorem hide_add {vs : List V} {ds : List D} (r : RpAll K (m.hide p) H vs ds) : RpAll K (m.add p) H vs ds := RpAll.re (m := m.hide p) (m' := m.add p) (fun _ _ h => add_at m h) (fun a n z => n (by
  rcases z with z | z
  · rcases List.mem_append.mp z with q | q
    · exact .inl q
    · rw [List.mem_singleton] at q; subst q; exact .inr List.mem_cons_self
  · exact .inr (List.mem_cons_of_mem _ z))) r
theorem SR.unhide (s : SR C K (m.hide p) H S) : SR C K m H S :=
  ⟨s.nd, s.len, fun n a ob h1 h2 => (s.obj n a ob h1 h2).mp rfl Cb.unhide, fun a ha => s.hid a (List.mem_cons_of_mem _ ha), fun a ha => s.apt a (List.mem_cons_of_mem _ ha)⟩
theorem SR.hideAdd {ob : O} (s : SR C K (m.hide p) H S) (hn : ¬ m.has p) (new : RO C K (m.add p) H p ob) : SR C K (m.add p) H (S ++ [ob]) :=
  s.unhide.add hn (fun n a ob h1 h2 => (s.obj n a ob h1 h2).mp rfl hide_add) new
end
def Post (C : Addr) (K : PySem.W.Frag) (m : M) (H : Hp) (o : Out) (Z : Ends) : Prop := match o with
  | .nx δ' S' => ∀ m' σ' H', Ev m H m' H' → ER K m' H' σ' δ' → SR C K m' H' S' → Z.nx σ' H'
  | .bk δ' S' => ∀ m' σ' H', Ev m H m' H' → ER K m' H' σ' δ' → SR C K m' H' S' → Z.bk σ' H'
  | .ct δ' S' => ∀ m' σ' H', Ev m H m' H' → ER K m' H' σ' δ' → SR C K m' H' S' → Z.ct σ' H'
  | .rt d S' => ∀ v m' H', Ev m H m' H' → SR C K m' H' S' → Rp K m' H' v d → Z.rt v H'
def SSem (C : Addr) (K : PySem.W.Frag) (t : TS) (b : B) : Prop := ∀ m σ H δ S o (Z : Ends), ER K m H σ δ → SR C K m H S → b δ S = some o → Post C K m H o Z → t Z σ H

section
variable {C : Addr} {K : PySem.W.Frag} {m m' : M} {H H' : Hp} {o : Out} {Z : Ends}
theorem Post.ev (e : Ev m H m' H') (h : Post C K m H o Z) : Post C K m' H' o Z := by
  cases o with
  | nx δ S => exact fun m'' σ' H'' e' => h m'' σ' H'' (e.trans e')
  | bk δ S => exact fun m'' σ' H'' e' => h m'' σ' H'' (e.trans e')
  | ct δ S => exact fun m'' σ' H'' e' => h m'' σ' H'' (e.trans e')
  | rt d S => exact fun v m'' H'' e' => h v m'' H'' (e.trans e')
end

structure RE (X : Cx) (C : Addr) (e : Expr) (t : TE) (f : E) : Prop where
  p : PE X e t
  s : ESem C X.K t f
structure RT (X : Cx) (C : Addr) (e : Expr) (t : TT) (f : T) : Prop where
  p : PT X e t
  s : TSem C X.K t f
structure RA (X : Cx) (C : Addr) (es : List Expr) (t : TA) (f : A) : Prop where
  p : PA X es t
  s : ASem C X.K t f
structure RL (X : Cx) (C : Addr) (e : Expr) (t : TE) (f : A) : Prop where
  p : PE X e t
  s : LSem C X.K t f
structure RD (X : Cx) (C : Addr) (e : Expr) (t : TE) (f : DD) : Prop where
  p : PE X e t
  s : DSem C X.K t f
structure RS (X : Cx) (C : Addr) (st : Stmt) (t : TS) (f : B) : Prop where
  p : PS X st t
  s : SSem C X.K t f
structure RSs (X : Cx) (C : Addr) (st : List Stmt) (t : TS) (f : B) : Prop where
  p : PSs X st t
  s : SSem C X.K t f

section
variable {X : Cx} {C : Addr} {pos : Pos} {a b c e : Expr} {es : List Expr} {ta tb tc te : TE} {tA : TA} {fa fb fc f : E} {g : A}

/-! ### names, constants -/
def eVar (i : Nat) : E := fun δ S => match δ[i]? with | some (some d) => some (d, S) | _ => none
def eC (d : D) : E := fun _ S => some (d, S)
theorem s_var (i : Nat) : ESem C X.K (tVar i) (eVar i) := fun m σ H δ S d S' Q er sr h q => by
  unfold eVar at h
  split at h
  · rename_i d' hd
    cases h
    obtain ⟨v, h1, h2⟩ := er.get i _ hd
    exact ⟨v, h1, q v m H .refl sr h2⟩
  · cases h
theorem re_var (i : Nat) {x : Str} (hN : X.N[i]? = some x := by rfl) (hv : Vis X.env.scope x := by first | exact Or.inl rfl | exact Or.inr (Or.inl rfl) | exact Or.inr (Or.inr rfl)) (hd : (x == ("__debug__" : Str)) = false := by decide)
    (hcd : (x == ("__classdict__" : Str)) = false := by decide) : RE X C (.Name x pos) (tVar i) (eVar i) := ⟨pe_var hN hv hd hcd, s_var i⟩
theorem re_int {i : Int} {j} : RE X C (.Constant (.int i) j pos) (tC (.int i)) (eC (.int i)) := ⟨pe_int, fun m σ H δ S d S' Q er sr h q => by cases h; exact q _ m H .refl sr (.int i)⟩
theorem re_bl {i : Bool} {j} : RE X C (.Constant (.bool i) j pos) (tC (.bl i)) (eC (.bl i)) := ⟨pe_bl, fun m σ H δ S d S' Q er sr h q => by cases h; exact q _ m H .refl sr (.bl i)⟩
theorem re_non {j} : RE X C (.Constant .none j pos) (tC .non) (eC .non) := ⟨pe_non, fun m σ H δ S d S' Q er sr h q => by cases h; exact q _ m H .refl sr .non⟩
theorem re_str {i : Str} {j} : RE X C (.Constant (.str i) j pos) (tC (.str i)) (eC (.str i)) := ⟨pe_str, fun m σ H δ S d S' Q er sr h q => by cases h; exact q _ m H .refl sr (.str i)⟩
theorem re_gInt {x : Str} {i : Int} {u : Value} (hg : Gl X x) (hm : X.mg x = some u) (r : RelV (.int i) u) (hd : (x == ("__debug__" : Str)) = false := by decide) : RE X C (.Name x pos) (tC (.int i)) (eC (.int i)) :=
  ⟨pe_glob hg hm r hd, fun m σ H δ S d S' Q er sr h q => by cases h; exact q _ m H .refl sr (.int i)⟩
theorem re_gStr {x z : Str} {u : Value} (hg : Gl X x) (hm : X.mg x = some u) (r : RelV (.str z) u) (hd : (x == ("__debug__" : Str)) = false := by decide) : RE X C (.Name x pos) (tC (.str z)) (eC (.str z)) :=
  ⟨pe_glob hg hm r hd, fun m σ H δ S d S' Q er sr h q => by cases h; exact q _ m H .refl sr (.str z)⟩

/-! ### lists of expressions -/
def aNil : A := fun _ S => some ([], S)
def aCons (f : E) (g : A) : A := fun δ S => (f δ S).bind fun p => (g δ p.2).bind fun q => some (p.1 :: q.1, q.2)
theorem ra_nil : RA X C [] tNil aNil := ⟨pa_nil, fun m σ H δ S d S' Q er sr h q => by cases h; exact q [] m H .refl sr .nil⟩
theorem ra_cons (ha : RE X C e te f) (hr : RA X C es tA g) (hs : starEach (e :: es) X.env = (false, eval e X.env) :: starEach es X.env := by rfl) : RA X C (e :: es) (tCons te tA) (aCons f g) :=
  ⟨pa_cons ha.p hr.p hs, fun m σ H δ S d S' Q er sr h q => by
    unfold aCons at h
    obtain ⟨⟨d1, S1⟩, h1, h2⟩ := Option.bind_eq_some_iff.mp h
    obtain ⟨⟨ds, S2⟩, h3, h4⟩ := Option.bind_eq_some_iff.mp h2
    cases h4
    refine ha.s m σ H δ S d1 S1 _ er sr h1 fun v m1 H1 e1 s1 r1 => ?_
    refine hr.s m1 σ H1 δ S1 ds _ _ (er.ev e1) s1 h3 fun vs m2 H2 e2 s2 r2 => ?_
    exact q _ m2 H2 (e1.trans e2) s2 (.cons (r1.ev e2) r2)⟩

/-! ### displays -/
def eTup (g : A) : E := fun δ S => (g δ S).bind fun p => if p.1.length ≤ 1000 then some (.tup p.1, p.2) else none
theorem le_size {n : Nat} (h : n ≤ 1000) : n ≤ sizeLine := Nat.le_of_lt (small1000 h)
theorem re_tup {x1} (h : RA X C es tA g) : RE X C (.Tuple es x1 pos) (tTup tA) (eTup g) :=
  ⟨pe_tup h.p, fun m σ H δ S d S' Q er sr hf q => by
    unfold eTup at hf
    obtain ⟨⟨ds, S1⟩, h1, h2⟩ := Option.bind_eq_some_iff.mp hf
    split at h2
    · rename_i hl
      cases h2
      refine h.s m σ H δ S _ _ _ er sr h1 fun vs m1 H1 e1 s1 r1 => ?_
      refine ⟨le_size (by rw [r1.length]; exact hl), fun p hp => ?_⟩
      exact q _ m1 _ (e1.trans (.lay hp)) (s1.lay hp) (.tup (.of upd_same) (r1.ev (.lay hp)))
    · cases h2⟩
def lDisp (g : A) : A := fun δ S => (g δ S).bind fun p => if p.1.length ≤ 1000 then some p else none
theorem rl_lst (h : RA X C es tA g) : RL X C (.List es pos) (tLst tA) (lDisp g) :=
  ⟨pe_lst h.p, fun m σ H δ S d S' Q er sr hf q => by
    unfold lDisp at hf
    obtain ⟨⟨ds, S1⟩, h1, h2⟩ := Option.bind_eq_some_iff.mp hf
    split at h2
    · rename_i hl
      cases h2
      refine h.s m σ H δ S _ _ _ er sr h1 fun vs m1 H1 e1 s1 r1 => ?_
      exact ⟨le_size (by rw [r1.length]; exact hl), fun p hp => q p vs m1 _ (e1.trans (.lay hp)) (e1.free s1 hp) upd_same (s1.hideLay hp) (r1.hide hp (.lay hp))⟩
    · cases h2⟩
/-- a new list as a value that never changes; as a changing object -/
def eL (g : A) : E := fun δ S => (g δ S).bind fun p => some (.lst p.1, p.2)
def eLM (g : A) : E := fun δ S => (g δ S).bind fun p => some (.ref p.2.length, p.2 ++ [.lst p.1])
theorem s_L {t : TE} (h : LSem C K t g) : ESem C K t (eL g) := fun m σ H δ S d S' Q er sr hf q => by
  unfold eL at hf
  obtain ⟨⟨ds, S1⟩, h1, h2⟩ := Option.bind_eq_some_iff.mp hf
  cases h2
  refine h m σ H δ S ds _ _ er sr h1 fun p xs m1 H1 e1 hp hl s1 r1 => ?_
  exact q _ m1 _ e1 s1.unhide (.lst hl (new_has e1 sr hp s1) (unhide r1))
theorem at_snoc {α : Type} {l : List α} {a : α} : (l ++ [a])[l.length]? = some a := by simp
theorem s_LM {t : TE} (h : LSem C K t g) : ESem C K t (eLM g) := fun m σ H δ S d S' Q er sr hf q => by
  unfold eLM at hf
  obtain ⟨⟨ds, S1⟩, h1, h2⟩ := Option.bind_eq_some_iff.mp hf
  cases h2
  refine h m σ H δ S ds S1 _ er sr h1 fun p xs m1 H1 e1 hp hl s1 r1 => ?_
  refine q _ (m1.add p) _ (e1.add hp) (s1.hideAdd (new_has e1 sr hp s1) ⟨xs, hl, hide_add r1⟩) (.ref ?_)
  have hlen : m1.l.length = S1.length := s1.len
  rw [← hlen]
  exact at_snoc
theorem re_L (h : RL X C e te g) : RE X C e te (eL g) := ⟨h.p, s_L h.s⟩
theorem re_LM (h : RL X C e te g) : RE X C e te (eLM g) := ⟨h.p, s_LM h.s⟩
def eDi (g : DD) : E := fun δ S => (g δ S).bind fun p => some (.dic p.1, p.2)
def eDM (g : DD) : E := fun δ S => (g δ S).bind fun p => some (.ref p.2.length, p.2 ++ [.dic p.1])
theorem s_Di {t : TE} {g : DD} (h : DSem C K t g) : ESem C K t (eDi g) := fun m σ H δ S d S' Q er sr hf q => by
  unfold eDi at hf
  obtain ⟨⟨ds, S1⟩, h1, h2⟩ := Option.bind_eq_some_iff.mp hf
  cases h2
  refine h m σ H δ S ds _ _ er sr h1 fun p xs m1 H1 e1 hp hl s1 k1 r1 => ?_
  exact q _ m1 _ e1 s1.unhide (.dic hl (new_has e1 sr hp s1) k1 (unhide r1))
theorem s_DM {t : TE} {g : DD} (h : DSem C K t g) : ESem C K t (eDM g) := fun m σ H δ S d S' Q er sr hf q => by
  unfold eDM at hf
  obtain ⟨⟨ds, S1⟩, h1, h2⟩ := Option.bind_eq_some_iff.mp hf
  cases h2
  refine h m σ H δ S ds S1 _ er sr h1 fun p xs m1 H1 e1 hp hl s1 k1 r1 => ?_
  refine q _ (m1.add p) _ (e1.add hp) (s1.hideAdd (new_has e1 sr hp s1) ⟨xs, hl, k1, hide_add r1⟩) (.ref ?_)
  have hlen : m1.l.length = S1.length := s1.len
  rw [← hlen]
  exact at_snoc
theorem re_Di {g : DD} (h : RD X C e te g) : RE X C e te (eDi g) := ⟨h.p, s_Di h.s⟩
theorem re_DM {g : DD} (h : RD X C e te g) : RE X C e te (eDM g) := ⟨h.p, s_DM h.s⟩

/-! ### what a value is, as a list, a tuple -/
def seqL (S : List O) : D → Option (List D)
  | .lst xs => some xs
  | .scr ns => some (ns.map .int)
  | .ref n => match S[n]? with | some (.lst xs) => some xs | _ => none
  | _ => none
theorem rp_seqL {m : M} {H : Hp} {S : List O} {v : V} {d : D} {ds : List D} (s : SR C K m H S) (r : Rp K m H v d) (h : seqL S d = some ds) : ∃ a xs, v = .ref a ∧ SqL K H a xs ∧ RpAll K m H xs ds := by
  cases r with
  | lst h1 n r => cases h; exact ⟨_, _, rfl, .of h1, r⟩
  | scr h1 => cases h; exact ⟨_, _, rfl, h1.sq, .ints _⟩
  | @ref a n hn =>
    have h : (match S[n]? with | some (O.lst xs) => some xs | _ => none) = some ds := h
    split at h
    · rename_i xs hs
      cases h
      obtain ⟨vs, h1, h2⟩ := s.obj _ _ _ hn hs
      exact ⟨_, _, rfl, .of h1, h2⟩
    · cases h
  | _ => cases h
/-- a list that stands tracked by itself -/
def seqM (S : List O) : D → Option (List D)
  | .lst xs => some xs
  | .ref n => match S[n]? with | some (.lst xs) => some xs | _ => none
  | _ => none
theorem rp_seqM {m : M} {H : Hp} {S : List O} {v : V} {d : D} {ds : List D} (s : SR C K m H S) (r : Rp K m H v d) (h : seqM S d = some ds) : ∃ a xs, v = .ref a ∧ H a = some (.lst xs) ∧ RpAll K m H xs ds := by
  cases r with
  | lst h1 n r => cases h; exact ⟨_, _, rfl, h1, r⟩
  | @ref a n hn =>
    have h : (match S[n]? with | some (O.lst xs) => some xs | _ => none) = some ds := h
    split at h
    · rename_i xs hs
      cases h
      obtain ⟨vs, h1, h2⟩ := s.obj _ _ _ hn hs
      exact ⟨_, _, rfl, h1, h2⟩
    · cases h
  | _ => cases h

/-! ### operators -/
abbrev Op2 := D → D → List O → Option D
def eOp (g : Op2) (f1 f2 : E) : E := fun δ S => (f1 δ S).bind fun p => (f2 δ p.2).bind fun q => (g p.1 q.1 q.2).bind fun d => some (d, q.2)
def R2Sem (C : Addr) (K : PySem.W.Frag) (r : R2) (g : Op2) : Prop := ∀ m H x y d1 d2 S d Q, Rp K m H x d1 → Rp K m H y d2 → SR C K m H S → g d1 d2 S = some d →
  (∀ v m' H', Ev m H m' H' → SR C K m' H' S → Rp K m' H' v d → Q v H') → r x y H Q
theorem s_op {r : R2} {g : Op2} {f1 f2 : E} {ta tb : TE} (h : R2Sem C K r g) (h1 : ESem C K ta f1) (h2 : ESem C K tb f2) : ESem C K (tOp r ta tb) (eOp g f1 f2) := fun m σ H δ S d S' Q er sr hf q => by
  unfold eOp at hf
  obtain ⟨⟨d1, S1⟩, q1, hf⟩ := Option.bind_eq_some_iff.mp hf
  obtain ⟨⟨d2, S2⟩, q2, hf⟩ := Option.bind_eq_some_iff.mp hf
  obtain ⟨d3, q3, hf⟩ := Option.bind_eq_some_iff.mp hf
  cases hf
  refine h1 m σ H δ S d1 S1 _ er sr q1 fun v m1 H1 e1 s1 r1 => ?_
  refine h2 m1 σ H1 δ S1 d2 S2 _ (er.ev e1) s1 q2 fun u m2 H2 e2 s2 r2 => ?_
  refine h m2 H2 v u d1 d2 S2 d _ (r1.ev e2) r2 s2 q3 fun w m3 H3 e3 s3 r3 => ?_
  exact q w m3 H3 (e1.trans (e2.trans e3)) s3 r3
def rAddX (K : PySem.W.Frag) : R2 := fun x y H Q => (rI0 (fun i j => .int (i + j))) x y H Q ∨ (∃ i j, x = .str i ∧ y = .str j ∧ i.length + j.length ≤ sizeLine ∧ Q (.str (i ++ j)) H) ∨ rCatA K x y H Q ∨ L2.rCat x y H Q
theorem op_addX : OpR X (binaryOp .Add) (rAddX X.K) := op_add.or (op_add_str.or (op_catA.or op_cat))
def dAdd : Op2 := fun d e S => match d, e with
  | .int i, .int j => some (.int (i + j))
  | .str x, .str y => if x.length + y.length ≤ sizeLine then some (.str (x ++ y)) else none
  | .tup a, .tup b => if a.length + b.length ≤ sizeLine then some (.tup (a ++ b)) else none
  | .lst a, .lst b => if a.length + b.length ≤ sizeLine then some (.lst (a ++ b)) else none
  | _, _ => none
theorem s_addX : R2Sem C K (rAddX K) dAdd := fun m H x y d1 d2 S d Q r1 r2 sr hf q => by
  unfold dAdd at hf
  split at hf
  · cases hf; cases r1; cases r2; exact .inl ⟨_, _, rfl, rfl, q _ m H .refl sr (.int _)⟩
  · split at hf
    · rename_i hl
      cases hf; cases r1; cases r2; exact .inr (.inl ⟨_, _, rfl, rfl, hl, q _ m H .refl sr (.str _)⟩)
    · cases hf
  · split at hf
    · rename_i hl
      cases hf
      cases r1 with
      | tup h1 q1 =>
        cases r2 with
        | tup h2 q2 =>
          refine .inr (.inr (.inl ⟨_, _, _, _, rfl, rfl, h1, h2, by rw [q1.length, q2.length]; exact hl, fun e => ?_, fun _ e => ?_, fun _ _ p hp => ?_⟩))
          · subst e
            cases q1
            exact q _ m H .refl sr (.tup h2 q2)
          · subst e
            cases q2
            exact q _ m H .refl sr (.tup h1 (by rw [List.append_nil]; exact q1))
          · exact q _ m _ (.lay hp) (sr.lay hp) (.tup (.of upd_same) ((q1.append q2).ev (.lay hp)))
    · cases hf
  · split at hf
    · rename_i hl
      cases hf
      cases r1 with
      | lst h1 n1 q1 =>
        cases r2 with
        | lst h2 n2 q2 =>
          refine .inr (.inr (.inr ⟨_, _, _, _, rfl, rfl, h1, h2, by rw [q1.length, q2.length]; exact hl, fun p hp => ?_⟩))
          exact q _ m _ (.lay hp) (sr.lay hp) (.lst upd_same (sr.notin hp) ((q1.append q2).ev (.lay hp)))
    · cases hf
  · cases hf
theorem re_add (ha : RE X C a ta fa) (hb : RE X C b tb fb) : RE X C (.BinOp a .Add b pos) (tOp (rAddX X.K) ta tb) (eOp dAdd fa fb) := ⟨pe_op op_addX ha.p hb.p, s_op s_addX ha.s hb.s⟩
def dInt (g : Int → Int → Option Int) : Op2 := fun d e _ => match d, e with
  | .int i, .int j => (g i j).bind fun k => some (.int k)
  | _, _ => none
theorem s_rI {Cd : Int → Int → Prop} {g : Int → Int → Int} {g' : Int → Int → Option Int} (hc : ∀ i j k, g' i j = some k → Cd i j ∧ k = g i j) : R2Sem C K (rI Cd fun i j => .int (g i j)) (dInt g') := fun m H x y d1 d2 S d Q r1 r2 sr hf q => by
  unfold dInt at hf
  split at hf
  · obtain ⟨k, hk, h2⟩ := Option.bind_eq_some_iff.mp hf
    cases h2
    obtain ⟨h1, e⟩ := hc _ _ _ hk
    subst e
    cases r1; cases r2
    exact ⟨_, _, rfl, rfl, h1, q _ m H .refl sr (.int _)⟩
  · cases hf
def gSub (i j : Int) : Option Int := some (i - j)
def gMul (i j : Int) : Option Int := if (-(2 ^ 64) < i ∧ i < 2 ^ 64) ∨ (-(2 ^ 64) < j ∧ j < 2 ^ 64) then some (i * j) else none
def gDiv (i j : Int) : Option Int := if 0 < j ∧ j < 1073741824 then some (i / j) else none
def gMod (i j : Int) : Option Int := if 0 < j then some (i % j) else none
def gPow (i j : Int) : Option Int := if 0 ≤ j ∧ j ≤ 1000000 ∧ i.natAbs < 2 ^ 64 then some (i ^ j.toNat) else none
theorem re_sub (ha : RE X C a ta fa) (hb : RE X C b tb fb) : RE X C (.BinOp a .Sub b pos) (tOp (rI (fun _ _ => True) fun i j => .int (i - j)) ta tb) (eOp (dInt gSub) fa fb) :=
  ⟨pe_op (by intro pins s σ H x y v u Q I rx ry h; obtain ⟨i, j, e1, e2, _, q⟩ := h; exact op_sub pins s σ H x y v u Q I rx ry ⟨i, j, e1, e2, q⟩) ha.p hb.p, s_op (s_rI fun i j k h => by cases h; exact ⟨trivial, rfl⟩) ha.s hb.s⟩
theorem re_div (ha : RE X C a ta fa) (hb : RE X C b tb fb) : RE X C (.BinOp a .FloorDiv b pos) (tOp (rI CDiv fun i j => .int (i / j)) ta tb) (eOp (dInt gDiv) fa fb) :=
  ⟨pe_op op_fdiv ha.p hb.p, s_op (s_rI fun i j k h => by
    unfold gDiv at h
    split at h
    · cases h; exact ⟨by assumption, rfl⟩
    · cases h) ha.s hb.s⟩
theorem re_mod (ha : RE X C a ta fa) (hb : RE X C b tb fb) : RE X C (.BinOp a .Mod b pos) (tOp (rI (fun _ j => 0 < j) fun i j => .int (i % j)) ta tb) (eOp (dInt gMod) fa fb) :=
  ⟨pe_op op_mod ha.p hb.p, s_op (s_rI fun i j k h => by
    unfold gMod at h
    split at h
    · cases h; exact ⟨by assumption, rfl⟩
    · cases h) ha.s hb.s⟩
theorem re_pow (ha : RE X C a ta fa) (hb : RE X C b tb fb) : RE X C (.BinOp a .Pow b pos) (tOp (rI CPow fun i j => .int (i ^ j.toNat)) ta tb) (eOp (dInt gPow) fa fb) :=
  ⟨pe_op op_pow ha.p hb.p, s_op (s_rI fun i j k h => by
    unfold gPow at h
    split at h
    · cases h; exact ⟨by assumption, rfl⟩
    · cases h) ha.s hb.s⟩
/-- a product of ints; a list so many times -/
def rMulX : R2 := fun x y H Q => rI CMul (fun i j => .int (i * j)) x y H Q ∨ rRep x y H Q
def dMul : Op2 := fun d e S => match d, e with
  | .int i, .int j => (gMul i j).bind fun k => some (.int k)
  | .lst a, .int k => if 0 ≤ k ∧ k < 2 ^ 63 ∧ a.length * k.toNat ≤ sizeLine then some (.lst (List.replicate k.toNat a).flatten) else none
  | _, _ => none
theorem RpAll.rep {K : PySem.W.Frag} {m : M} {H : Hp} {xs : List V} {ds : List D} (h : RpAll K m H xs ds) : ∀ k : Nat, RpAll K m H (List.replicate k xs).flatten (List.replicate k ds).flatten
  | 0 => .nil
  | k + 1 => by
    rw [List.replicate_succ, List.replicate_succ, List.flatten_cons, List.flatten_cons]
    exact h.append (RpAll.rep h k)
theorem s_mulX : R2Sem C K rMulX dMul := fun m H x y d1 d2 S d Q r1 r2 sr hf q => by
  unfold dMul at hf
  split at hf
  · obtain ⟨k, hk, h2⟩ := Option.bind_eq_some_iff.mp hf
    cases h2
    unfold gMul at hk
    split at hk
    · rename_i hc
      cases hk
      cases r1; cases r2
      exact .inl ⟨_, _, rfl, rfl, hc, q _ m H .refl sr (.int _)⟩
    · cases hk
  · split at hf
    · rename_i hc
      cases hf
      cases r1 with
      | lst h1 n1 q1 =>
        cases r2
        refine .inr ⟨_, _, _, rfl, rfl, h1, by omega, hc.2.1, by rw [q1.length]; exact hc.2.2, fun p hp => ?_⟩
        exact q _ m _ (.lay hp) (sr.lay hp) (.lst upd_same (sr.notin hp) ((q1.rep _).ev (.lay hp)))
    · cases hf
  · cases hf
theorem re_mul (ha : RE X C a ta fa) (hb : RE X C b tb fb) : RE X C (.BinOp a .Mult b pos) (tOp rMulX ta tb) (eOp dMul fa fb) := ⟨pe_op (op_mul.or op_rep) ha.p hb.p, s_op s_mulX ha.s hb.s⟩
def eNeg (f : E) : E := fun δ S => (f δ S).bind fun p => match p.1 with | .int i => some (.int (-i), p.2) | _ => none
theorem re_neg (ha : RE X C a ta fa) : RE X C (.UnaryOp .USub a pos) (tUn (rU fun i => .int (-i)) ta) (eNeg fa) :=
  ⟨pe_un un_neg ha.p, fun m σ H δ S d S' Q er sr hf q => by
    unfold eNeg at hf
    obtain ⟨⟨d1, S1⟩, q1, hf⟩ := Option.bind_eq_some_iff.mp hf
    split at hf
    · rename_i i hi
      cases hf
      have hi : d1 = .int i := hi
      subst hi
      refine ha.s m σ H δ S _ _ _ er sr q1 fun v m1 H1 e1 s1 r1 => ?_
      cases r1
      exact ⟨_, rfl, q _ m1 H1 e1 s1 (.int _)⟩
    · cases hf⟩

/-! ### comparisons -/
mutual
def py : D → PyData
  | .non => .none | .bl b => .bool b | .int i => .int i | .str x => .str x
  | .tup xs => .tuple (pyL xs) | .lst xs => .list (pyL xs) | .scr ns => .list (ns.map .int) | .dic _ => .dict [] | .ref _ => .dict []
def pyL : List D → List PyData
  | [] => []
  | d :: ds => py d :: pyL ds
end
def pyS (S : List O) : D → PyData
  | .ref n => match S[n]? with | some (.lst xs) => .list (pyL xs) | _ => .dict []
  | d => py d
theorem dp_ints {K : PySem.W.Frag} {H : Hp} : ∀ ns : List Int, DpAll K H (ns.map V.int) (ns.map PyData.int)
  | [] => .nil
  | n :: ns => .cons (.int n) (dp_ints ns)
mutual
theorem Rp.dp {m : M} {H : Hp} : ∀ {v : V} {d : D}, Rp K m H v d → (py d).canLay0 = true → Dp K H v (py d)
  | _, _, .non, _ => .non
  | _, _, .bl b, _ => .bl b
  | _, _, .int i, _ => .int i
  | _, _, .str x, _ => .str x
  | _, _, .tup h r, c => .tup h (RpAll.dp r (by simpa [py, PyData.canLay0] using c))
  | _, _, .lst h n r, c => .lst (.of h) (RpAll.dp r (by simpa [py, PyData.canLay0] using c))
  | _, _, .scr h, c => .lst h.sq (dp_ints _)
  | _, _, .dic h n k r, c => by simp [py, PyData.canLay0] at c
  | _, _, .ref h, c => by simp [py, PyData.canLay0] at c
theorem RpAll.dp {m : M} {H : Hp} : ∀ {vs : List V} {ds : List D}, RpAll K m H vs ds → PyData.canLayAll0 (pyL ds) = true → DpAll K H vs (pyL ds)
  | _, _, .nil, _ => .nil
  | _, _, .cons r rs, c => by
    simp only [pyL, PyData.canLayAll0, Bool.and_eq_true] at c
    exact .cons (Rp.dp r c.1) (RpAll.dp rs c.2)
end
theorem Rp.dpS {m : M} {H : Hp} {S : List O} {v : V} {d : D} (s : SR C K m H S) (r : Rp K m H v d) (c : (pyS S d).canLay0 = true) : Dp K H v (pyS S d) := by
  cases r with
  | @ref a n hn =>
    cases hs : S[n]? with
    | none => simp [pyS, hs, PyData.canLay0] at c
    | some ob =>
      cases ob with
      | lst xs =>
        obtain ⟨vs, h1, h2⟩ := s.obj _ _ _ hn hs
        have e : pyS S (.ref n) = .list (pyL xs) := by simp [pyS, hs]
        rw [e] at c ⊢
        exact .lst (.of h1) (h2.dp (by simpa [PyData.canLay0] using c))
      | dic ks => simp [pyS, hs, PyData.canLay0] at c
      | ins ks => simp [pyS, hs, PyData.canLay0] at c
  | non => exact .non
  | bl b => exact .bl b
  | int b => exact .int b
  | str b => exact .str b
  | tup h q => exact Rp.dp (.tup h q) c
  | lst h n q => exact Rp.dp (.lst h n q) c
  | scr h => exact Rp.dp (m := m) (.scr h) c
  | dic h n k q => exact Rp.dp (.dic h n k q) c
def rEqL (K : PySem.W.Frag) (L : Nat) : R2 := fun x y H Q => ∃ d e, Dp K H x d ∧ Dp K H y e ∧ d.canLay0 = true ∧ e.canLay0 = true ∧ min d.depth e.depth ≤ L ∧ Q (.bl (PyData.eqv d e)) H
def rNeL (K : PySem.W.Frag) (L : Nat) : R2 := fun x y H Q => ∃ d e, Dp K H x d ∧ Dp K H y e ∧ d.canLay0 = true ∧ e.canLay0 = true ∧ min d.depth e.depth ≤ L ∧ Q (.bl (!PyData.eqv d e)) H
theorem op_eqL {L : Nat} (hu : X.A.units + L < cLine) : OpR X (compareOp .Eq) (rEqL X.K L) := by
  intro pins s σ H x y v u Q I rx ry h
  obtain ⟨d, e, hd, he, sd, se, hl, q⟩ := h
  obtain ⟨as, r1⟩ := Dp.reads I d x v hd rx
  obtain ⟨bs, r2⟩ := Dp.reads I e y u he ry
  exact SeqAt.compareEq_reads r1 r2 sd se (by omega) ⟨.bl _, H, I, rfl, q⟩
theorem op_neL {L : Nat} (hu : X.A.units + L < cLine) : OpR X (compareOp .NotEq) (rNeL X.K L) := by
  intro pins s σ H x y v u Q I rx ry h
  obtain ⟨d, e, hd, he, sd, se, hl, q⟩ := h
  obtain ⟨as, r1⟩ := Dp.reads I d x v hd rx
  obtain ⟨bs, r2⟩ := Dp.reads I e y u he ry
  exact SeqAt.compareNe_reads r1 r2 sd se (by omega) ⟨.bl _, H, I, rfl, q⟩
def dEqv (L : Nat) (S : List O) : D → D → Option Bool
  | .str x, .str y => some (decide (x = y))
  | .int i, .int j => some (decide (i = j))
  | .bl i, .bl j => some (decide (i = j))
  | .non, .str _ => some false
  | .str _, .non => some false
  | .int _, .str _ => some false
  | .str _, .int _ => some false
  | d, e => if (pyS S d).canLay0 = true ∧ (pyS S e).canLay0 = true ∧ min (pyS S d).depth (pyS S e).depth ≤ L then some (PyData.eqv (pyS S d) (pyS S e)) else none
def dEq (L : Nat) : Op2 := fun d e S => (dEqv L S d e).bind fun k => some (.bl k)
def dNe (L : Nat) : Op2 := fun d e S => (dEqv L S d e).bind fun k => some (.bl (!k))
theorem int_dec {i j : Int} : decide (V.int i = V.int j) = decide (i = j) := by simp
theorem str_dec {i j : Str} : decide (V.str i = V.str j) = decide (i = j) := by simp
theorem bl_dec {i j : Bool} : decide (V.bl i = V.bl j) = decide (i = j) := by rw [dec_bl]; cases i <;> cases j <;> rfl
theorem s_eqv {L : Nat} {m : M} {H : Hp} {x y : V} {d e : D} {S : List O} {k : Bool} (r1 : Rp K m H x d) (r2 : Rp K m H y e) (sr : SR C K m H S) (h : dEqv L S d e = some k) :
    (scal x y = true ∧ decide (x = y) = k) ∨ ∃ d e, Dp K H x d ∧ Dp K H y e ∧ d.canLay0 = true ∧ e.canLay0 = true ∧ min d.depth e.depth ≤ L ∧ PyData.eqv d e = k := by
  unfold dEqv at h
  split at h
  · cases h; cases r1; cases r2; exact .inl ⟨rfl, str_dec⟩
  · cases h; cases r1; cases r2; exact .inl ⟨rfl, int_dec⟩
  · cases h; cases r1; cases r2; exact .inl ⟨rfl, bl_dec⟩
  · cases h; cases r1; cases r2; exact .inl ⟨rfl, decide_eq_false (fun z => nomatch z)⟩
  · cases h; cases r1; cases r2; exact .inl ⟨rfl, decide_eq_false (fun z => nomatch z)⟩
  · cases h; cases r1; cases r2; exact .inl ⟨rfl, decide_eq_false (fun z => nomatch z)⟩
  · cases h; cases r1; cases r2; exact .inl ⟨rfl, decide_eq_false (fun z => nomatch z)⟩
  · split at h
    · rename_i hc
      cases h
      exact .inr ⟨_, _, r1.dpS sr hc.1, r2.dpS sr hc.2.1, hc.1, hc.2.1, hc.2.2, rfl⟩
    · cases h
def rEqX (K : PySem.W.Frag) (L : Nat) : R2 := fun x y H Q => rEq x y H Q ∨ rEqL K L x y H Q
def rNeX (K : PySem.W.Frag) (L : Nat) : R2 := fun x y H Q => rNe x y H Q ∨ rNeL K L x y H Q
theorem s_eqX {L : Nat} : R2Sem C K (rEqX K L) (dEq L) := fun m H x y d1 d2 S d Q r1 r2 sr hf q => by
  unfold dEq at hf
  obtain ⟨k, hk, h2⟩ := Option.bind_eq_some_iff.mp hf
  cases h2
  rcases s_eqv r1 r2 sr hk with ⟨h1, h2⟩ | ⟨d, e, h1, h2, h3, h4, h5, h6⟩
  · exact .inl ⟨h1, by rw [h2]; exact q _ m H .refl sr (.bl _)⟩
  · exact .inr ⟨d, e, h1, h2, h3, h4, h5, by rw [h6]; exact q _ m H .refl sr (.bl _)⟩
theorem s_neX {L : Nat} : R2Sem C K (rNeX K L) (dNe L) := fun m H x y d1 d2 S d Q r1 r2 sr hf q => by
  unfold dNe at hf
  obtain ⟨k, hk, h2⟩ := Option.bind_eq_some_iff.mp hf
  cases h2
  rcases s_eqv r1 r2 sr hk with ⟨h1, h2⟩ | ⟨d, e, h1, h2, h3, h4, h5, h6⟩
  · exact .inl ⟨h1, by rw [h2]; exact q _ m H .refl sr (.bl _)⟩
  · exact .inr ⟨d, e, h1, h2, h3, h4, h5, by rw [h6]; exact q _ m H .refl sr (.bl _)⟩
theorem re_eq {L : Nat} (hu : X.A.units + L < cLine) (ha : RE X C a ta fa) (hb : RE X C b tb fb) : RE X C (.Compare a [.Eq] [b] pos) (tOp (rEqX X.K L) ta tb) (eOp (dEq L) fa fb) := ⟨pe_cmpR (op_eq.or (op_eqL hu)) ha.p hb.p (nomark _), s_op s_eqX ha.s hb.s⟩
theorem re_ne {L : Nat} (hu : X.A.units + L < cLine) (ha : RE X C a ta fa) (hb : RE X C b tb fb) : RE X C (.Compare a [.NotEq] [b] pos) (tOp (rNeX X.K L) ta tb) (eOp (dNe L) fa fb) := ⟨pe_cmpR (op_ne.or (op_neL hu)) ha.p hb.p (nomark _), s_op s_neX ha.s hb.s⟩
def dCmp (g : Int → Int → Bool) : Op2 := fun d e _ => match d, e with
  | .int i, .int j => some (.bl (g i j))
  | _, _ => none
theorem s_rI0 {g : Int → Int → Bool} : R2Sem C K (rI0 fun i j => .bl (g i j)) (dCmp g) := fun m H x y d1 d2 S d Q r1 r2 sr hf q => by
  unfold dCmp at hf
  split at hf
  · cases hf; cases r1; cases r2
    exact ⟨_, _, rfl, rfl, q _ m H .refl sr (.bl _)⟩
  · cases hf
theorem re_lt (ha : RE X C a ta fa) (hb : RE X C b tb fb) : RE X C (.Compare a [.Lt] [b] pos) (tOp (rI0 fun i j => .bl (decide (i < j))) ta tb) (eOp (dCmp fun i j => decide (i < j)) fa fb) := ⟨pe_cmpR op_lt ha.p hb.p (nomark _), s_op s_rI0 ha.s hb.s⟩
theorem re_le (ha : RE X C a ta fa) (hb : RE X C b tb fb) : RE X C (.Compare a [.LtE] [b] pos) (tOp (rI0 fun i j => .bl (decide (i ≤ j))) ta tb) (eOp (dCmp fun i j => decide (i ≤ j)) fa fb) := ⟨pe_cmpR op_le ha.p hb.p (nomark _), s_op s_rI0 ha.s hb.s⟩
theorem re_gt (ha : RE X C a ta fa) (hb : RE X C b tb fb) : RE X C (.Compare a [.Gt] [b] pos) (tOp (rI0 fun i j => .bl (decide (i > j))) ta tb) (eOp (dCmp fun i j => decide (i > j)) fa fb) := ⟨pe_cmpR op_gt ha.p hb.p (nomark _), s_op s_rI0 ha.s hb.s⟩
theorem re_ge (ha : RE X C a ta fa) (hb : RE X C b tb fb) : RE X C (.Compare a [.GtE] [b] pos) (tOp (rI0 fun i j => .bl (decide (i ≥ j))) ta tb) (eOp (dCmp fun i j => decide (i ≥ j)) fa fb) := ⟨pe_cmpR op_ge ha.p hb.p (nomark _), s_op s_rI0 ha.s hb.s⟩
def isNon : D → Bool
  | .non => true
  | _ => false
def eIsN (neg : Bool) (f : E) : E := fun δ S => (f δ S).bind fun p => some (.bl (if neg then !isNon p.1 else isNon p.1), p.2)
theorem Rp.isNon {m : M} {H : Hp} {v : V} {d : D} (r : Rp K m H v d) : decide (v = .non) = Cb.isNon d := by
  cases r <;> simp [Cb.isNon]
theorem re_is {j p2} (ha : RE X C a ta fa) : RE X C (.Compare a [.Is] [.Constant .none j p2] pos) (tOp (fun x y H Q => y = .non ∧ Q (.bl (decide (x = .non))) H) ta (tC .non)) (eIsN false fa) :=
  ⟨pe_cmpR op_isN ha.p pe_non (nomark _), fun m σ H δ S d S' Q er sr hf q => by
    unfold eIsN at hf
    obtain ⟨⟨d1, S1⟩, q1, hf⟩ := Option.bind_eq_some_iff.mp hf
    cases hf
    refine ha.s m σ H δ S _ _ _ er sr q1 fun v m1 H1 e1 s1 r1 => ?_
    exact ⟨rfl, by rw [r1.isNon]; exact q _ m1 H1 e1 s1 (.bl _)⟩⟩
theorem re_isnot {j p2} (ha : RE X C a ta fa) : RE X C (.Compare a [.IsNot] [.Constant .none j p2] pos) (tOp (fun x y H Q => y = .non ∧ Q (.bl (!decide (x = .non))) H) ta (tC .non)) (eIsN true fa) :=
  ⟨pe_cmpR op_notN ha.p pe_non (nomark _), fun m σ H δ S d S' Q er sr hf q => by
    unfold eIsN at hf
    obtain ⟨⟨d1, S1⟩, q1, hf⟩ := Option.bind_eq_some_iff.mp hf
    cases hf
    refine ha.s m σ H δ S _ _ _ er sr q1 fun v m1 H1 e1 s1 r1 => ?_
    exact ⟨rfl, by rw [r1.isNon]; exact q _ m1 H1 e1 s1 (.bl _)⟩⟩
end
end Cb
namespace Cb
open PySem L2

section
variable {X : Cx} {C : Addr} {pos : Pos} {a b c e : Expr} {es : List Expr} {ta tb tc te : TE} {tA : TA} {fa fb fc f : E} {g : A}

/-! ### tests -/
def tOf (f : E) : T := fun δ S => (f δ S).bind fun p => match p.1 with | .bl b => some (b, p.2) | _ => none
theorem s_tOf {t : TE} {K : PySem.W.Frag} (h : ESem C K t f) : TSem C K (tTest t) (tOf f) := fun m σ H δ S b S' Q er sr hf q => by
  unfold tOf at hf
  obtain ⟨⟨d1, S1⟩, q1, hf⟩ := Option.bind_eq_some_iff.mp hf
  split at hf
  · rename_i k hk
    have hk : d1 = .bl k := hk
    subst hk
    cases hf
    refine h m σ H δ S _ _ _ er sr q1 fun v m1 H1 e1 s1 r1 => ?_
    cases r1
    exact ⟨_, rfl, q m1 H1 e1 s1⟩
  · cases hf
theorem s_tOfB {t : TE} {K : PySem.W.Frag} (h : ESem C K t f) : TSem C K (tB t) (tOf f) := s_tOf h
/-- a comparison, as a value and as a test -/
structure RC (X : Cx) (C : Addr) (e : Expr) (t : TE) (f : E) : Prop where
  p : PE X e t
  q : PT X e (tTest t)
  s : ESem C X.K t f
theorem re_c (h : RC X C e te f) : RE X C e te f := ⟨h.p, h.s⟩
theorem rt_c (h : RC X C e te f) : RT X C e (tTest te) (tOf f) := ⟨h.q, s_tOf h.s⟩
theorem rc_op {op : CmpOp} {r : R2} {gg : Op2} (ho : OpR X (compareOp op) r) (hs : R2Sem C X.K r gg) (ha : RE X C a ta fa) (hb : RE X C b tb fb) (hm : behindInMarks op b = false) : RC X C (.Compare a [op] [b] pos) (tOp r ta tb) (eOp gg fa fb) :=
  ⟨pe_cmpR ho ha.p hb.p hm, pt_cmpR ho ha.p hb.p hm, s_op hs ha.s hb.s⟩
theorem rc_eq {L : Nat} (hu : X.A.units + L < cLine) (ha : RE X C a ta fa) (hb : RE X C b tb fb) : RC X C (.Compare a [.Eq] [b] pos) (tOp (rEqX X.K L) ta tb) (eOp (dEq L) fa fb) := rc_op (op_eq.or (op_eqL hu)) s_eqX ha hb (nomark _)
theorem rc_ne {L : Nat} (hu : X.A.units + L < cLine) (ha : RE X C a ta fa) (hb : RE X C b tb fb) : RC X C (.Compare a [.NotEq] [b] pos) (tOp (rNeX X.K L) ta tb) (eOp (dNe L) fa fb) := rc_op (op_ne.or (op_neL hu)) s_neX ha hb (nomark _)
theorem rc_lt (ha : RE X C a ta fa) (hb : RE X C b tb fb) : RC X C (.Compare a [.Lt] [b] pos) (tOp (rI0 fun i j => .bl (decide (i < j))) ta tb) (eOp (dCmp fun i j => decide (i < j)) fa fb) := rc_op op_lt s_rI0 ha hb (nomark _)
theorem rc_le (ha : RE X C a ta fa) (hb : RE X C b tb fb) : RC X C (.Compare a [.LtE] [b] pos) (tOp (rI0 fun i j => .bl (decide (i ≤ j))) ta tb) (eOp (dCmp fun i j => decide (i ≤ j)) fa fb) := rc_op op_le s_rI0 ha hb (nomark _)
theorem rc_gt (ha : RE X C a ta fa) (hb : RE X C b tb fb) : RC X C (.Compare a [.Gt] [b] pos) (tOp (rI0 fun i j => .bl (decide (i > j))) ta tb) (eOp (dCmp fun i j => decide (i > j)) fa fb) := rc_op op_gt s_rI0 ha hb (nomark _)
theorem rc_ge (ha : RE X C a ta fa) (hb : RE X C b tb fb) : RC X C (.Compare a [.GtE] [b] pos) (tOp (rI0 fun i j => .bl (decide (i ≥ j))) ta tb) (eOp (dCmp fun i j => decide (i ≥ j)) fa fb) := rc_op op_ge s_rI0 ha hb (nomark _)
def dIsN (neg : Bool) : Op2 := fun d e _ => match e with | .non => some (.bl (if neg then !isNon d else isNon d)) | _ => none
theorem s_isN {K : PySem.W.Frag} : R2Sem C K (fun x y H Q => y = .non ∧ Q (.bl (decide (x = .non))) H) (dIsN false) := fun m H x y d1 d2 S d Q r1 r2 sr hf q => by
  unfold dIsN at hf
  split at hf
  · cases hf; cases r2
    exact ⟨rfl, by rw [r1.isNon]; exact q _ m H .refl sr (.bl _)⟩
  · cases hf
theorem s_notN {K : PySem.W.Frag} : R2Sem C K (fun x y H Q => y = .non ∧ Q (.bl (!decide (x = .non))) H) (dIsN true) := fun m H x y d1 d2 S d Q r1 r2 sr hf q => by
  unfold dIsN at hf
  split at hf
  · cases hf; cases r2
    exact ⟨rfl, by rw [r1.isNon]; exact q _ m H .refl sr (.bl _)⟩
  · cases hf
theorem rc_is (ha : RE X C a ta fa) (hb : RE X C b tb fb) : RC X C (.Compare a [.Is] [b] pos) (tOp (fun x y H Q => y = .non ∧ Q (.bl (decide (x = .non))) H) ta tb) (eOp (dIsN false) fa fb) := rc_op op_isN s_isN ha hb (nomark _)
theorem rc_isnot (ha : RE X C a ta fa) (hb : RE X C b tb fb) : RC X C (.Compare a [.IsNot] [b] pos) (tOp (fun x y H Q => y = .non ∧ Q (.bl (!decide (x = .non))) H) ta tb) (eOp (dIsN true) fa fb) := rc_op op_notN s_notN ha hb (nomark _)
/-- lo ? x ? hi -/
def eChain (g1 g2 : Op2) (f1 f2 f3 : E) : E := fun δ S => (f1 δ S).bind fun p => (f2 δ p.2).bind fun q => (g1 p.1 q.1 q.2).bind fun d => match d with
  | .bl true => (f3 δ q.2).bind fun r => (g2 q.1 r.1 r.2).bind fun d => some (d, r.2)
  | .bl false => some (.bl false, q.2)
  | _ => none
theorem s_chain {K : PySem.W.Frag} {r r' : R2} {g1 g2 : Op2} (hs1 : R2Sem C K r g1) (hs2 : R2Sem C K r' g2) (h1 : ESem C K ta fa) (h2 : ESem C K tb fb) (h3 : ESem C K tc fc) : ESem C K (tChain r r' ta tb tc) (eChain g1 g2 fa fb fc) := fun m σ H δ S d S' Q er sr hf q => by
  unfold eChain at hf
  obtain ⟨⟨d1, S1⟩, q1, hf⟩ := Option.bind_eq_some_iff.mp hf
  obtain ⟨⟨d2, S2⟩, q2, hf⟩ := Option.bind_eq_some_iff.mp hf
  obtain ⟨d3, q3, hf⟩ := Option.bind_eq_some_iff.mp hf
  refine h1 m σ H δ S d1 S1 _ er sr q1 fun v m1 H1 e1 s1 r1 => ?_
  refine h2 m1 σ H1 δ S1 d2 S2 _ (er.ev e1) s1 q2 fun u m2 H2 e2 s2 r2 => ?_
  refine hs1 m2 H2 v u d1 d2 S2 d3 _ (r1.ev e2) r2 s2 q3 fun w m3 H3 e3 s3 r3 => ?_
  split at hf
  · obtain ⟨⟨d4, S4⟩, q4, hf⟩ := Option.bind_eq_some_iff.mp hf
    obtain ⟨d5, q5, hf⟩ := Option.bind_eq_some_iff.mp hf
    cases hf
    cases r3
    refine ⟨_, rfl, iteT ?_⟩
    refine h3 m3 σ H3 δ S2 d4 S4 _ (er.ev (e1.trans (e2.trans e3))) s3 q4 fun w m4 H4 e4 s4 r4 => ?_
    exact hs2 m4 H4 u w d2 d4 S4 _ _ (r2.ev (e3.trans e4)) r4 s4 q5 fun z m5 H5 e5 s5 r5 => q z m5 H5 (e1.trans (e2.trans (e3.trans (e4.trans e5)))) s5 r5
  · cases hf
    cases r3
    exact ⟨_, rfl, iteF (q _ m3 H3 (e1.trans (e2.trans e3)) s3 (.bl _))⟩
  · cases hf
theorem rc_chain {op op' : CmpOp} {r r' : R2} {g1 g2 : Op2} (ho : OpR X (compareOp op) r) (ho' : OpR X (compareOp op') r') (hs1 : R2Sem C X.K r g1) (hs2 : R2Sem C X.K r' g2) (ha : RE X C a ta fa) (hb : RE X C b tb fb) (hc : RE X C c tc fc)
    (hm : lastMarks [op, op'] [b, c] = false := by with_unfolding_all rfl) : RC X C (.Compare a [op, op'] [b, c] pos) (tChain r r' ta tb tc) (eChain g1 g2 fa fb fc) :=
  ⟨pe_chain ho ho' ha.p hb.p hc.p hm, pt_chain ho ho' ha.p hb.p hc.p hm, s_chain hs1 hs2 ha.s hb.s hc.s⟩
theorem rc_lele (ha : RE X C a ta fa) (hb : RE X C b tb fb) (hc : RE X C c tc fc) (hm : lastMarks [.LtE, .LtE] [b, c] = false := by with_unfolding_all rfl) :
    RC X C (.Compare a [.LtE, .LtE] [b, c] pos) (tChain (rI0 fun i j => .bl (decide (i ≤ j))) (rI0 fun i j => .bl (decide (i ≤ j))) ta tb tc) (eChain (dCmp fun i j => decide (i ≤ j)) (dCmp fun i j => decide (i ≤ j)) fa fb fc) := rc_chain op_le op_le s_rI0 s_rI0 ha hb hc hm
theorem rc_ltlt (ha : RE X C a ta fa) (hb : RE X C b tb fb) (hc : RE X C c tc fc) (hm : lastMarks [.Lt, .Lt] [b, c] = false := by with_unfolding_all rfl) :
    RC X C (.Compare a [.Lt, .Lt] [b, c] pos) (tChain (rI0 fun i j => .bl (decide (i < j))) (rI0 fun i j => .bl (decide (i < j))) ta tb tc) (eChain (dCmp fun i j => decide (i < j)) (dCmp fun i j => decide (i < j)) fa fb fc) := rc_chain op_lt op_lt s_rI0 s_rI0 ha hb hc hm
/-- any expression that is True or False -/
theorem rt_val (h : RE X C e te f) (he : ∀ whole, isTrue e X.env whole = (do let v ← whole; standAt e.pos; holding [v] (truthy v)) := by intro _; rfl) : RT X C e (tB te) (tOf f) := ⟨pt_val h.p he, s_tOfB h.s⟩
structure RW (X : Cx) (C : Addr) (e : Expr) (t : TT) (f : T) : Prop where
  p : PW X e t
  s : TSem C X.K t f
def tfAnd (f g : T) : T := fun δ S => (f δ S).bind fun p => if p.1 = true then g δ p.2 else some (false, p.2)
def tfOr (f g : T) : T := fun δ S => (f δ S).bind fun p => if p.1 = true then some (true, p.2) else g δ p.2
def tfNot (f : T) : T := fun δ S => (f δ S).bind fun p => some (!p.1, p.2)
variable {t1 t2 : TT} {g1 g2 : T} {rest : List Expr}
theorem s_and {K : PySem.W.Frag} (h1 : TSem C K t1 g1) (h2 : TSem C K t2 g2) : TSem C K (tAnd t1 t2) (tfAnd g1 g2) := fun m σ H δ S b S' Q er sr hf q => by
  unfold tfAnd at hf
  obtain ⟨⟨b1, S1⟩, q1, hf⟩ := Option.bind_eq_some_iff.mp hf
  refine h1 m σ H δ S b1 S1 _ er sr q1 fun m1 H1 e1 s1 => ?_
  cases b1 with
  | true => exact iteT (h2 m1 σ H1 δ S1 b S' _ (er.ev e1) s1 hf fun m2 H2 e2 s2 => q m2 H2 (e1.trans e2) s2)
  | false => cases hf; exact iteF (q m1 H1 e1 s1)
theorem s_or {K : PySem.W.Frag} (h1 : TSem C K t1 g1) (h2 : TSem C K t2 g2) : TSem C K (tOr t1 t2) (tfOr g1 g2) := fun m σ H δ S b S' Q er sr hf q => by
  unfold tfOr at hf
  obtain ⟨⟨b1, S1⟩, q1, hf⟩ := Option.bind_eq_some_iff.mp hf
  refine h1 m σ H δ S b1 S1 _ er sr q1 fun m1 H1 e1 s1 => ?_
  cases b1 with
  | false => exact iteF (h2 m1 σ H1 δ S1 b S' _ (er.ev e1) s1 hf fun m2 H2 e2 s2 => q m2 H2 (e1.trans e2) s2)
  | true => cases hf; exact iteT (q m1 H1 e1 s1)
theorem rw_and1 (h : RT X C a t1 g1) : RW X C (.BoolOp .And [a] pos) t1 g1 := ⟨pw_and1 h.p, h.s⟩
theorem rw_or1 (h : RT X C a t1 g1) : RW X C (.BoolOp .Or [a] pos) t1 g1 := ⟨pw_or1 h.p, h.s⟩
theorem rw_and (h : RT X C a t1 g1) (h2 : RW X C (.BoolOp .And (b :: rest) pos) t2 g2) : RW X C (.BoolOp .And (a :: b :: rest) pos) (tAnd t1 t2) (tfAnd g1 g2) := ⟨pw_and h.p h2.p, s_and h.s h2.s⟩
theorem rw_or (h : RT X C a t1 g1) (h2 : RW X C (.BoolOp .Or (b :: rest) pos) t2 g2) : RW X C (.BoolOp .Or (a :: b :: rest) pos) (tOr t1 t2) (tfOr g1 g2) := ⟨pw_or h.p h2.p, s_or h.s h2.s⟩
theorem rt_w (h : RW X C e t1 g1) : RT X C e t1 g1 := ⟨h.p.pt, h.s⟩
theorem rt_not (h : RT X C a t1 g1) : RT X C (.UnaryOp .Not a pos) (tNot t1) (tfNot g1) := ⟨pt_not h.p, fun m σ H δ S b S' Q er sr hf q => by
  unfold tfNot at hf
  obtain ⟨⟨b1, S1⟩, q1, hf⟩ := Option.bind_eq_some_iff.mp hf
  cases hf
  exact h.s m σ H δ S b1 S1 _ er sr q1 fun m1 H1 e1 s1 => q m1 H1 e1 s1⟩
/-! as values -/
def eAnd (f g : E) : E := fun δ S => (f δ S).bind fun p => match p.1 with | .bl true => g δ p.2 | .bl false => some (.bl false, p.2) | _ => none
def eOr (f g : E) : E := fun δ S => (f δ S).bind fun p => match p.1 with | .bl true => some (.bl true, p.2) | .bl false => g δ p.2 | _ => none
def eNot (f : E) : E := fun δ S => (f δ S).bind fun p => match p.1 with | .bl b => some (.bl (!b), p.2) | _ => none
theorem re_one {op} (h : RE X C a ta fa) : RE X C (.BoolOp op [a] pos) ta fa := ⟨pe_one h.p, h.s⟩
theorem re_and (h : RE X C a ta fa) (h2 : RE X C (.BoolOp .And (b :: rest) pos) tb fb) : RE X C (.BoolOp .And (a :: b :: rest) pos) (tAndV ta tb) (eAnd fa fb) := ⟨pe_and h.p h2.p, fun m σ H δ S d S' Q er sr hf q => by
  unfold eAnd at hf
  obtain ⟨⟨d1, S1⟩, q1, hf⟩ := Option.bind_eq_some_iff.mp hf
  refine h.s m σ H δ S d1 S1 _ er sr q1 fun v m1 H1 e1 s1 r1 => ?_
  split at hf
  · rename_i hk
    have hk : d1 = .bl true := hk
    subst hk
    cases r1
    exact ⟨_, rfl, iteT (h2.s m1 σ H1 δ S1 d S' _ (er.ev e1) s1 hf fun v m2 H2 e2 s2 r2 => q v m2 H2 (e1.trans e2) s2 r2)⟩
  · rename_i hk
    have hk : d1 = .bl false := hk
    subst hk
    cases hf; cases r1
    exact ⟨_, rfl, iteF (q _ m1 H1 e1 s1 (.bl _))⟩
  · cases hf⟩
theorem re_or (h : RE X C a ta fa) (h2 : RE X C (.BoolOp .Or (b :: rest) pos) tb fb) : RE X C (.BoolOp .Or (a :: b :: rest) pos) (tOrV ta tb) (eOr fa fb) := ⟨pe_or h.p h2.p, fun m σ H δ S d S' Q er sr hf q => by
  unfold eOr at hf
  obtain ⟨⟨d1, S1⟩, q1, hf⟩ := Option.bind_eq_some_iff.mp hf
  refine h.s m σ H δ S d1 S1 _ er sr q1 fun v m1 H1 e1 s1 r1 => ?_
  split at hf
  · rename_i hk
    have hk : d1 = .bl true := hk
    subst hk
    cases hf; cases r1
    exact ⟨_, rfl, iteT (q _ m1 H1 e1 s1 (.bl _))⟩
  · rename_i hk
    have hk : d1 = .bl false := hk
    subst hk
    cases r1
    exact ⟨_, rfl, iteF (h2.s m1 σ H1 δ S1 d S' _ (er.ev e1) s1 hf fun v m2 H2 e2 s2 r2 => q v m2 H2 (e1.trans e2) s2 r2)⟩
  · cases hf⟩
theorem re_not (h : RE X C a ta fa) : RE X C (.UnaryOp .Not a pos) (tNotV ta) (eNot fa) := ⟨pe_not h.p, fun m σ H δ S d S' Q er sr hf q => by
  unfold eNot at hf
  obtain ⟨⟨d1, S1⟩, q1, hf⟩ := Option.bind_eq_some_iff.mp hf
  refine h.s m σ H δ S d1 S1 _ er sr q1 fun v m1 H1 e1 s1 r1 => ?_
  split at hf
  · rename_i k hk
    have hk : d1 = .bl k := hk
    subst hk
    cases hf; cases r1
    exact ⟨_, rfl, q _ m1 H1 e1 s1 (.bl _)⟩
  · cases hf⟩
/-- x or y of texts -/
def eOrS (f g : E) : E := fun δ S => (f δ S).bind fun p => match p.1 with | .str x => if x.length ≤ sizeLine then (if (x.length : Int) != 0 then some (.str x, p.2) else g δ p.2) else none | _ => none
theorem re_orS (h : RE X C a ta fa) (h2 : RE X C (.BoolOp .Or (b :: rest) pos) tb fb) : RE X C (.BoolOp .Or (a :: b :: rest) pos) (tOrT X.K ta tb) (eOrS fa fb) := ⟨pe_orT h.p h2.p, fun m σ H δ S d S' Q er sr hf q => by
  unfold eOrS at hf
  obtain ⟨⟨d1, S1⟩, q1, hf⟩ := Option.bind_eq_some_iff.mp hf
  refine h.s m σ H δ S d1 S1 _ er sr q1 fun v m1 H1 e1 s1 r1 => ?_
  split at hf
  · rename_i x hk
    have hk : d1 = .str x := hk
    subst hk
    split at hf
    · rename_i hl
      cases r1
      refine ⟨_, ⟨hl, rfl⟩, ?_⟩
      split at hf
      · rename_i hc
        cases hf
        rw [if_pos hc]
        exact q _ m1 H1 e1 s1 (.str _)
      · rename_i hc
        rw [if_neg hc]
        exact h2.s m1 σ H1 δ S1 d S' _ (er.ev e1) s1 hf fun v m2 H2 e2 s2 r2 => q v m2 H2 (e1.trans e2) s2 r2
    · cases hf
  · cases hf⟩
def eIf (f : T) (g h : E) : E := fun δ S => (f δ S).bind fun p => if p.1 = true then g δ p.2 else h δ p.2
theorem re_if (hc : RT X C c t1 g1) (ha : RE X C a ta fa) (hb : RE X C b tb fb) : RE X C (.IfExp c a b pos) (tIf t1 ta tb) (eIf g1 fa fb) := ⟨pe_ifExp hc.p ha.p hb.p, fun m σ H δ S d S' Q er sr hf q => by
  unfold eIf at hf
  obtain ⟨⟨b1, S1⟩, q1, hf⟩ := Option.bind_eq_some_iff.mp hf
  refine hc.s m σ H δ S b1 S1 _ er sr q1 fun m1 H1 e1 s1 => ?_
  cases b1 with
  | true => exact iteT (ha.s m1 σ H1 δ S1 d S' _ (er.ev e1) s1 hf fun v m2 H2 e2 s2 r2 => q v m2 H2 (e1.trans e2) s2 r2)
  | false => exact iteF (hb.s m1 σ H1 δ S1 d S' _ (er.ev e1) s1 hf fun v m2 H2 e2 s2 r2 => q v m2 H2 (e1.trans e2) s2 r2)⟩

/-! ### subscripts -/
def dIx : Op2 := fun d i S => match i with
  | .int i => match d with
    | .tup ds => atI ds i
    | .str z => if z.length ≤ sizeLine then (atI z.cps.toList i).bind fun c => some (.str ⟨#[c]⟩) else none
    | d => (seqL S d).bind fun ds => atI ds i
  | _ => none
theorem RpAll.atI {K : PySem.W.Frag} {m : M} {H : Hp} {vs : List V} {ds : List D} {i : Int} {d : D} (r : RpAll K m H vs ds) (h : L2.atI ds i = some d) : ∃ v, L2.atI vs i = some v ∧ Rp K m H v d := by
  unfold L2.atI at h ⊢
  rw [r.length]
  obtain ⟨j, h1, h2⟩ := Option.bind_eq_some_iff.mp h
  obtain ⟨v, h3, h4⟩ := r.get h2
  exact ⟨v, by rw [h1]; exact h3, h4⟩
theorem s_ix {K : PySem.W.Frag} : R2Sem C K (rIx K) dIx := fun m H x y d1 d2 S d Q r1 r2 sr hf q => by
  unfold dIx at hf
  split at hf
  · rename_i i
    cases r2
    split at hf
    · cases r1 with
      | tup h1 r =>
        obtain ⟨v, h2, h3⟩ := r.atI hf
        exact .inr (.inl ⟨_, _, _, v, rfl, rfl, h1, h2, q v m H .refl sr h3⟩)
    · split at hf
      · rename_i hl
        obtain ⟨c, h2, h3⟩ := Option.bind_eq_some_iff.mp hf
        cases h3
        cases r1
        exact .inr (.inr ⟨_, _, c, rfl, rfl, hl, h2, q _ m H .refl sr (.str _)⟩)
      · cases hf
    · obtain ⟨ds, h2, h3⟩ := Option.bind_eq_some_iff.mp hf
      obtain ⟨a, xs, e, h4, h5⟩ := rp_seqL sr r1 h2
      subst e
      obtain ⟨v, h6, h7⟩ := h5.atI h3
      exact .inl ⟨_, _, _, v, rfl, rfl, h4, h6, q v m H .refl sr h7⟩
  · cases hf
theorem re_ix (ha : RE X C a ta fa) (hb : RE X C b tb fb) (hs : PlainIx b := by exact fun _ _ => rfl) : RE X C (.Subscript a b pos) (tOp (rIx X.K) ta tb) (eOp dIx fa fb) := ⟨pe_ix ix_seq ha.p hb.p hs, s_op s_ix ha.s hb.s⟩
/-! slices -/
abbrev Pt := Sl → List O → Option (Option Int × List O)
def PtSem (C : Addr) (K : PySem.W.Frag) (t : TO) (f : Pt) : Prop := ∀ m σ H δ S b S' Q, ER K m H σ δ → SR C K m H S → f δ S = some (b, S') →
  (∀ m' H', Ev m H m' H' → SR C K m' H' S' → Q b H') → t σ H Q
structure RP (X : Cx) (C : Addr) (e : Option Expr) (t : TO) (f : Pt) : Prop where
  p : PO X e t
  s : PtSem C X.K t f
def ptN : Pt := fun _ S => some (none, S)
def ptS (f : E) : Pt := fun δ S => (f δ S).bind fun p => match p.1 with | .int i => some (some i, p.2) | _ => none
theorem rp_none : RP X C none tNoPart ptN := ⟨po_none, fun m σ H δ S b S' Q er sr hf q => by cases hf; exact q m H .refl sr⟩
theorem rp_some (h : RE X C e te f) : RP X C (some e) (tPart te) (ptS f) := ⟨po_some h.p, fun m σ H δ S b S' Q er sr hf q => by
  unfold ptS at hf
  obtain ⟨⟨d1, S1⟩, q1, hf⟩ := Option.bind_eq_some_iff.mp hf
  refine h.s m σ H δ S d1 S1 _ er sr q1 fun v m1 H1 e1 s1 r1 => ?_
  split at hf
  · rename_i i hk
    have hk : d1 = .int i := hk
    subst hk
    cases hf; cases r1
    exact ⟨_, rfl, q m1 H1 e1 s1⟩
  · cases hf⟩
def cutD {α : Type} (xs : List α) (lo hi : Option Int) : List α := (xs.drop (HT.sIx xs.length 0 lo)).take (HT.sIx xs.length xs.length hi - HT.sIx xs.length 0 lo)
theorem RpAll.cut {K : PySem.W.Frag} {m : M} {H : Hp} {vs : List V} {ds : List D} (r : RpAll K m H vs ds) (lo hi : Option Int) : RpAll K m H (cutV vs lo hi) (cutD ds lo hi) := by
  unfold cutV cutD
  rw [r.length]
  exact (r.drop _).take _
def dSl (d : D) (lo hi : Option Int) (S : List O) : Option D := match d with
  | .tup ds => some (.tup (cutD ds lo hi))
  | .str z => if z.length ≤ sizeLine then some (.str ⟨(cutD z.cps.toList lo hi).toArray⟩) else none
  | d => (seqL S d).bind fun ds => some (.lst (cutD ds lo hi))
def eSl (f : E) (lo hi : Pt) : E := fun δ S => (f δ S).bind fun p => (lo δ p.2).bind fun l => (hi δ l.2).bind fun h => (dSl p.1 l.1 h.1 h.2).bind fun d => some (d, h.2)
def rSlX (K : PySem.W.Frag) (rs : V → Option Int → Option Int → Hp → VK → Prop) : V → Option Int → Option Int → Hp → VK → Prop := fun x lo hi H Q => rSlL K x lo hi H Q ∨ rSlA K x lo hi H Q ∨ rs x lo hi H Q
end
end Cb
namespace Cb
open PySem L2

section
variable {X : Cx} {C : Addr} {pos : Pos} {a b c e : Expr} {es : List Expr} {ta tb tc te : TE} {tA : TA} {fa fb fc f : E} {g : A}
/-! slices -/
def dSlice (d : D) (lo hi : Option Int) (S : List O) : Option D := match d with
  | .tup ds => some (.tup (cutD ds lo hi))
  | .str z => if z.length ≤ sizeLine then some (.str (cutS z lo hi)) else none
  | d => (seqL S d).bind fun ds => some (.lst (cutD ds lo hi))
def eSlice (f : E) (lo hi : Pt) : E := fun δ S => (f δ S).bind fun p => (lo δ p.2).bind fun l => (hi δ l.2).bind fun h => (dSlice p.1 l.1 h.1 h.2).bind fun d => some (d, h.2)
def rSlAll (K : PySem.W.Frag) : V → Option Int → Option Int → Hp → VK → Prop := fun x lo hi H Q => rSlL K x lo hi H Q ∨ rSlA K x lo hi H Q ∨ rSlS x lo hi H Q
theorem sl_all : SlR X (rSlAll X.K) := SlR.or sl_list (SlR.or sl_tupA sl_str)
theorem cutD_whole {α : Type} {xs : List α} {lo hi : Option Int} (h : HT.sIx xs.length 0 lo = 0 ∧ HT.sIx xs.length xs.length hi = xs.length) : cutD xs lo hi = xs := by
  unfold cutD
  rw [h.1, h.2]
  simp
theorem s_slice {K : PySem.W.Frag} {m : M} {H : Hp} {x : V} {d0 d : D} {lo hi : Option Int} {S : List O} {Q : VK} (r1 : Rp K m H x d0) (sr : SR C K m H S) (h : dSlice d0 lo hi S = some d)
    (q : ∀ v m' H', Ev m H m' H' → SR C K m' H' S → Rp K m' H' v d → Q v H') : rSlAll K x lo hi H Q := by
  unfold dSlice at h
  split at h
  · cases h
    cases r1 with
    | tup h1 r =>
      refine .inr (.inl ⟨_, _, rfl, h1, fun e => ?_, fun _ p hp => ?_⟩)
      · rw [r.length] at e
        rw [cutD_whole e] at q
        exact q _ m H .refl sr (.tup h1 r)
      · exact q _ m _ (.lay hp) (sr.lay hp) (.tup (.of upd_same) ((r.cut lo hi).ev (.lay hp)))
  · split at h
    · rename_i hl
      cases h; cases r1
      exact .inr (.inr ⟨_, rfl, hl, q _ m H .refl sr (.str _)⟩)
    · cases h
  · obtain ⟨ds, h2, h3⟩ := Option.bind_eq_some_iff.mp h
    cases h3
    obtain ⟨a, xs, e, h4, h5⟩ := rp_seqL sr r1 h2
    subst e
    exact .inl ⟨_, _, rfl, h4, fun p hp => q _ m _ (.lay hp) (sr.lay hp) (.lst upd_same (sr.notin hp) ((h5.cut lo hi).ev (.lay hp)))⟩
theorem re_slice {lo hi : Option Expr} {tl th : TO} {fl fh : Pt} {p2 : Pos} (he : RE X C e te f) (hl : RP X C lo tl fl) (hh : RP X C hi th fh) : RE X C (.Subscript e (.Slice lo hi none p2) pos) (tSl (rSlAll X.K) te tl th) (eSlice f fl fh) :=
  ⟨pe_slice sl_all he.p hl.p hh.p, fun m σ H δ S d S' Q er sr hf q => by
    unfold eSlice at hf
    obtain ⟨⟨d1, S1⟩, q1, hf⟩ := Option.bind_eq_some_iff.mp hf
    obtain ⟨⟨l, S2⟩, q2, hf⟩ := Option.bind_eq_some_iff.mp hf
    obtain ⟨⟨h, S3⟩, q3, hf⟩ := Option.bind_eq_some_iff.mp hf
    obtain ⟨d4, q4, hf⟩ := Option.bind_eq_some_iff.mp hf
    cases hf
    refine he.s m σ H δ S d1 S1 _ er sr q1 fun v m1 H1 e1 s1 r1 => ?_
    refine hl.s m1 σ H1 δ S1 l S2 _ (er.ev e1) s1 q2 fun m2 H2 e2 s2 => ?_
    refine hh.s m2 σ H2 δ S2 h S3 _ (er.ev (e1.trans e2)) s2 q3 fun m3 H3 e3 s3 => ?_
    exact s_slice (r1.ev (e2.trans e3)) s3 q4 fun v m4 H4 e4 s4 r4 => q v m4 H4 (e1.trans (e2.trans (e3.trans e4))) s4 r4⟩
def lRev (f : E) : A := fun δ S => (f δ S).bind fun p => (seqL p.2 p.1).bind fun ds => some (ds.reverse, p.2)
theorem rl_rev {k : Nat} {p1 p2 p3 : Pos} (he : RE X C e te f) : RL X C (.Subscript e (.Slice none none (some (.UnaryOp .USub (.Constant (.int 1) k p1) p2)) p3) pos) (tRevL X.K te) (lRev f) :=
  ⟨pe_revL he.p, fun m σ H δ S d S' Q er sr hf q => by
    unfold lRev at hf
    obtain ⟨⟨d1, S1⟩, q1, hf⟩ := Option.bind_eq_some_iff.mp hf
    obtain ⟨ds, q2, hf⟩ := Option.bind_eq_some_iff.mp hf
    cases hf
    refine he.s m σ H δ S d1 S1 _ er sr q1 fun v m1 H1 e1 s1 r1 => ?_
    obtain ⟨a, xs, ee, h4, h5⟩ := rp_seqL s1 r1 q2
    subst ee
    exact ⟨_, _, rfl, h4, fun p hp => q p _ m1 _ (e1.trans (.lay hp)) (e1.free s1 hp) upd_same (s1.hideLay hp) (h5.reverse.hide hp (.lay hp))⟩⟩

/-! ### calls -/
abbrev Fn := List D → List O → Option (D × List O)
def spF (C : Addr) (K : PySem.W.Frag) (n : Nat) (F : Fn) : Sp := fun vs H Q _ => vs.length = n ∧ ∃ m S ds d S', RpAll K m H vs ds ∧ SR C K m H S ∧ F ds S = some (d, S') ∧
  ∀ v m' H', Ev m H m' H' → SR C K m' H' S' → Rp K m' H' v d → Q v H'
structure Cal (P : Program) (w : World) (K : PySem.W.Frag) (mg : Str → Option Value) (base : Heap) (C : Addr) (k : Nat) (x : Str) (n : Nat) (F : Fn) : Prop where
  ex : ∃ (f : Addr) (fd : FuncData) (ps : List Str), FnOk P w K mg base CX0 k f fd ps (spF C K n F) ∧ Binds K fd ps [] ∧ PySem.W.keepIn K (.ref f) = true ∧ mg x = some (.ref f)
def eCall (n : Nat) (F : Fn) (g : A) : E := fun δ S => (g δ S).bind fun p => if p.1.length = n then F p.1 p.2 else none
theorem s_call {K : PySem.W.Frag} {n : Nat} {F : Fn} {E0 : XK} (h : ASem C K tA g) : ESem C K (tCall (spF C K n F) [] E0 tA) (eCall n F g) := fun m σ H δ S d S' Q er sr hf q => by
  unfold eCall at hf
  obtain ⟨⟨ds, S1⟩, q1, hf⟩ := Option.bind_eq_some_iff.mp hf
  split at hf
  · rename_i hl
    refine h m σ H δ S ds S1 _ er sr q1 fun vs m1 H1 e1 s1 r1 => ?_
    rw [List.append_nil]
    exact ⟨by rw [r1.length]; exact hl, m1, S1, ds, d, S', r1, s1, hf, fun v m2 H2 e2 s2 r2 => q v m2 H2 (e1.trans e2) s2 r2⟩
  · cases hf
theorem re_call {k n : Nat} {x : Str} {F : Fn} {p : Pos} (cal : Cal X.prog X.w X.K X.mg X.base C k x n F) (hr : Room k X.A) (hg : Gl X x) (ha : RA X C (e :: es) tA g) (hdb : (x == ("__debug__" : Str)) = false := by decide)
    (he : starEach (e :: es) X.env = (false, eval e X.env) :: starEach es X.env := by rfl) (hpl : (backTo pos (starEach es X.env)).any (·.1) = false := by rfl) :
    RE X C (.Call (.Name x p) (e :: es) [] pos) (tCall (spF C X.K n F) [] E0 tA) (eCall n F g) := by
  obtain ⟨f, fd, ps, F', bd, kp, hm⟩ := cal.ex
  exact ⟨pe_call F' hr hg hm kp bd .nil pass0 ha.p hdb he hpl, s_call ha.s⟩
/-- a built-in's call, by values -/
abbrev Bi := List D → List O → Option D
def CSem (C : Addr) (K : PySem.W.Frag) (r : List V → Hp → VK → Prop) (g : Bi) : Prop := ∀ m H xs ds S d Q, RpAll K m H xs ds → SR C K m H S → g ds S = some d →
  (∀ v m' H', Ev m H m' H' → SR C K m' H' S → Rp K m' H' v d → Q v H') → r xs H Q
def eBi (k : Bi) (g : A) : E := fun δ S => (g δ S).bind fun p => (k p.1 p.2).bind fun d => some (d, p.2)
theorem s_bi {K : PySem.W.Frag} {r : List V → Hp → VK → Prop} {k : Bi} (hc : CSem C K r k) (h : ASem C K tA g) : ESem C K (tCB r tA) (eBi k g) := fun m σ H δ S d S' Q er sr hf q => by
  unfold eBi at hf
  obtain ⟨⟨ds, S1⟩, q1, hf⟩ := Option.bind_eq_some_iff.mp hf
  obtain ⟨d2, q2, hf⟩ := Option.bind_eq_some_iff.mp hf
  cases hf
  refine h m σ H δ S ds S1 _ er sr q1 fun vs m1 H1 e1 s1 r1 => ?_
  exact hc m1 H1 vs ds S1 d _ r1 s1 q2 fun v m2 H2 e2 s2 r2 => q v m2 H2 (e1.trans e2) s2 r2
theorem re_callB {id : String} {x : Str} {r : List V → Hp → VK → Prop} {k : Bi} {p : Pos} (hc : CallR X (.builtin id) r) (hs : CSem C X.K r k) (hg : Gl X x) (hm : X.mg x = none) (hv : bootBuiltins x = some (.builtin id)) (ha : RA X C (e :: es) tA g) (hn : x ≠ "__name__" := by decide) (hdb : (x == ("__debug__" : Str)) = false := by decide)
    (he : starEach (e :: es) X.env = (false, eval e X.env) :: starEach es X.env := by rfl) (hpl : (backTo pos (starEach es X.env)).any (·.1) = false := by rfl) :
    RE X C (.Call (.Name x p) (e :: es) [] pos) (tCB r tA) (eBi k g) := ⟨pe_callB hc hg hm hv ha.p hn hdb he hpl, s_bi hs ha.s⟩
theorem re_callTy {T : String} {x : Str} {r : List V → Hp → VK → Prop} {k : Bi} {p : Pos} (hc : CallR X (.type T) r) (hs : CSem C X.K r k) (hg : Gl X x) (hm : X.mg x = none) (hv : bootBuiltins x = some (.type T)) (ha : RA X C (e :: es) tA g) (hn : x ≠ "__name__" := by decide) (hdb : (x == ("__debug__" : Str)) = false := by decide)
    (he : starEach (e :: es) X.env = (false, eval e X.env) :: starEach es X.env := by rfl) (hpl : (backTo pos (starEach es X.env)).any (·.1) = false := by rfl) :
    RE X C (.Call (.Name x p) (e :: es) [] pos) (tCB r tA) (eBi k g) := ⟨pe_callTy hc hg hm hv ha.p hn hdb he hpl, s_bi hs ha.s⟩
/-- a built-in that hands back a new list -/
abbrev Bl := List D → List O → Option (List D)
def ClSem (C : Addr) (K : PySem.W.Frag) (r : List V → Hp → VK → Prop) (g : Bl) : Prop := ∀ m H xs ds S d Q, RpAll K m H xs ds → SR C K m H S → g ds S = some d →
  (∀ p ys, H p = none → RpAll K m H ys d → Q (.ref p) (upd H p (.lst ys))) → r xs H Q
def lBi (k : Bl) (g : A) : A := fun δ S => (g δ S).bind fun p => (k p.1 p.2).bind fun d => some (d, p.2)
theorem s_bl {K : PySem.W.Frag} {r : List V → Hp → VK → Prop} {k : Bl} (hc : ClSem C K r k) (h : ASem C K tA g) : LSem C K (tCB r tA) (lBi k g) := fun m σ H δ S d S' Q er sr hf q => by
  unfold lBi at hf
  obtain ⟨⟨ds, S1⟩, q1, hf⟩ := Option.bind_eq_some_iff.mp hf
  obtain ⟨d2, q2, hf⟩ := Option.bind_eq_some_iff.mp hf
  cases hf
  refine h m σ H δ S ds S1 _ er sr q1 fun vs m1 H1 e1 s1 r1 => ?_
  exact hc m1 H1 vs ds S1 _ _ r1 s1 q2 fun p ys hp r2 => q p ys m1 _ (e1.trans (.lay hp)) (e1.free s1 hp) upd_same (s1.hideLay hp) (r2.hide hp (.lay hp))
theorem rl_callB {id : String} {x : Str} {r : List V → Hp → VK → Prop} {k : Bl} {p : Pos} (hc : CallR X (.builtin id) r) (hs : ClSem C X.K r k) (hg : Gl X x) (hm : X.mg x = none) (hv : bootBuiltins x = some (.builtin id)) (ha : RA X C (e :: es) tA g) (hn : x ≠ "__name__" := by decide) (hdb : (x == ("__debug__" : Str)) = false := by decide)
    (he : starEach (e :: es) X.env = (false, eval e X.env) :: starEach es X.env := by rfl) (hpl : (backTo pos (starEach es X.env)).any (·.1) = false := by rfl) :
    RL X C (.Call (.Name x p) (e :: es) [] pos) (tCB r tA) (lBi k g) := ⟨pe_callB hc hg hm hv ha.p hn hdb he hpl, s_bl hs ha.s⟩
theorem rl_callTy {T : String} {x : Str} {r : List V → Hp → VK → Prop} {k : Bl} {p : Pos} (hc : CallR X (.type T) r) (hs : ClSem C X.K r k) (hg : Gl X x) (hm : X.mg x = none) (hv : bootBuiltins x = some (.type T)) (ha : RA X C (e :: es) tA g) (hn : x ≠ "__name__" := by decide) (hdb : (x == ("__debug__" : Str)) = false := by decide)
    (he : starEach (e :: es) X.env = (false, eval e X.env) :: starEach es X.env := by rfl) (hpl : (backTo pos (starEach es X.env)).any (·.1) = false := by rfl) :
    RL X C (.Call (.Name x p) (e :: es) [] pos) (tCB r tA) (lBi k g) := ⟨pe_callTy hc hg hm hv ha.p hn hdb he hpl, s_bl hs ha.s⟩

/-! len -/
def bLen : Bi := fun ds S => match ds with
  | [.tup xs] => some (.int xs.length)
  | [.str z] => if z.length ≤ sizeLine then some (.int z.length) else none
  | [d] => (seqL S d).bind fun xs => some (.int xs.length)
  | _ => none
def rLenX (K : PySem.W.Frag) : List V → Hp → VK → Prop := fun xs H Q => (∃ p ys, xs = [.ref p] ∧ (SqL K H p ys ∨ SqT K H p ys) ∧ Q (.int ys.length) H) ∨ ∃ z, xs = [.str z] ∧ z.length ≤ sizeLine ∧ Q (.int z.length) H
theorem call_lenX : CallR X (.builtin "len") (rLenX X.K) := call_len_seq.or call_len_str
theorem s_len {K : PySem.W.Frag} : CSem C K (rLenX K) bLen := fun m H xs ds S d Q r sr hf q => by
  unfold bLen at hf
  split at hf
  · cases hf
    cases r with
    | cons r1 rr =>
      cases rr
      cases r1 with
      | tup h1 r2 => exact .inl ⟨_, _, rfl, .inr h1, by rw [r2.length]; exact q _ m H .refl sr (.int _)⟩
  · split at hf
    · rename_i hl
      cases hf
      cases r with
      | cons r1 rr =>
        cases rr
        cases r1
        exact .inr ⟨_, rfl, hl, q _ m H .refl sr (.int _)⟩
    · cases hf
  · obtain ⟨ys, h1, h2⟩ := Option.bind_eq_some_iff.mp hf
    cases h2
    cases r with
    | cons r1 rr =>
      cases rr
      obtain ⟨a, zs, ee, h4, h5⟩ := rp_seqL sr r1 h1
      subst ee
      exact .inl ⟨_, _, rfl, .inl h4, by rw [h5.length]; exact q _ m H .refl sr (.int _)⟩
  · cases hf
/-! isinstance -/
def tyD (S : List O) : D → String
  | .non => "NoneType" | .bl _ => "bool" | .int _ => "int" | .str _ => "str" | .tup _ => "tuple" | .lst _ => "list" | .scr _ => "list" | .dic _ => "dict"
  | .ref n => match S[n]? with | some (.lst _) => "list" | some (.dic _) => "dict" | _ => "?"
def isD (T : String) (S : List O) (d : D) : Option Bool := if tyD S d = "?" then none else some (tyD S d == T || (T == "int" && tyD S d == "bool"))
def bIsi (T : String) : Bi := fun ds S => match ds with
  | [d] => (isD T S d).bind fun k => some (.bl k)
  | _ => none
theorem rp_ty {K : PySem.W.Frag} {m : M} {H : Hp} {S : List O} {v : V} {d : D} (s : SR C K m H S) (r : Rp K m H v d) (h : tyD S d ≠ "?") : TyX K H v (.type (tyD S d)) ∧ tyD S d ∈ ["NoneType", "bool", "int", "str", "tuple", "list", "dict"] := by
  cases r with
  | non => exact ⟨.base .non, by simp [tyD]⟩
  | bl b => exact ⟨.base (.bl b), by simp [tyD]⟩
  | int b => exact ⟨.base (.int b), by simp [tyD]⟩
  | str b => exact ⟨.base (.str b), by simp [tyD]⟩
  | tup h1 q =>
    refine ⟨?_, by simp [tyD]⟩
    rcases h1 with (h1 | ⟨o, h1⟩) | ⟨o, its, n, h1, h2, _⟩
    · exact .base (.tup h1)
    · exact .fTuple h1
    · exact .kTuple h1 h2
  | lst h1 n q => exact ⟨.base (.lst h1), by simp [tyD]⟩
  | scr h1 =>
    refine ⟨?_, by simp [tyD]⟩
    rcases h1 with ⟨o, h1⟩ | ⟨o, its, n, h1, h2, _⟩
    · exact .base (.frz h1)
    · exact .kList h1 h2
  | dic h1 n k q => exact ⟨.base (.dK h1), by simp [tyD]⟩
  | @ref a n hn =>
    cases hs : S[n]? with
    | none => simp [tyD, hs] at h
    | some ob =>
      cases ob with
      | lst ds =>
        obtain ⟨vs, h1, h2⟩ := s.obj _ _ _ hn hs
        simp only [tyD, hs]
        exact ⟨.base (.lst h1), by simp⟩
      | dic ds =>
        obtain ⟨vs, h1, h2⟩ := s.obj _ _ _ hn hs
        simp only [tyD, hs]
        exact ⟨.base (.dK h1), by simp⟩
      | ins ds => simp [tyD, hs] at h
theorem kit_all : ∀ T ∈ ["int", "bool", "str", "tuple", "list"], ∀ s ∈ ["NoneType", "bool", "int", "str", "tuple", "list", "dict"], kitB s T = some (s == T || (T == "int" && s == "bool")) := by decide +kernel
theorem s_isi {K : PySem.W.Frag} {T : String} (hT : T ∈ ["int", "bool", "str", "tuple", "list"]) : CSem C K (fun xs H Q => ∃ x, xs = [x] ∧ rIsi K [x, .ty T] H Q) (bIsi T) := fun m H xs ds S d Q r sr hf q => by
  unfold bIsi at hf
  split at hf
  · rename_i d0
    obtain ⟨k, h1, h2⟩ := Option.bind_eq_some_iff.mp hf
    cases h2
    unfold isD at h1
    split at h1
    · cases h1
    · rename_i hne
      cases h1
      cases r with
      | cons r1 rr =>
        cases rr
        obtain ⟨t1, t2⟩ := rp_ty sr r1 hne
        exact ⟨_, rfl, _, _, _, _, _, rfl, .ty T, t1, kit_ty (kit_all T hT _ t2), q _ m H .refl sr (.bl _)⟩
  · cases hf
def eIsi (T : String) (f : E) : E := fun δ S => (f δ S).bind fun p => (isD T p.2 p.1).bind fun k => some (.bl k, p.2)
theorem re_isi {T : String} {x : Str} {p p' : Pos} (hT : T ∈ ["int", "bool", "str", "tuple", "list"]) (hg : Gl X "isinstance") (hm : X.mg "isinstance" = none) (hg2 : Gl X x) (hm2 : X.mg x = none) (hv2 : bootBuiltins x = some (.type T)) (ha : RE X C a ta f) (hn2 : x ≠ "__name__" := by decide) (hdb : (x == ("__debug__" : Str)) = false := by decide)
    (he : starEach [a, .Name x p'] X.env = (false, eval a X.env) :: starEach [.Name x p'] X.env := by rfl) (he2 : starEach [.Name x p'] X.env = (false, eval (.Name x p') X.env) :: starEach [] X.env := by rfl) (hpl : (backTo pos (starEach [.Name x p'] X.env)).any (·.1) = false := by rfl) :
    RE X C (.Call (.Name "isinstance" p) [a, .Name x p'] [] pos) (tCB (rIsi X.K) (tCons ta (tCons (tC (.ty T)) tNil))) (eIsi T f) :=
  ⟨pe_callB call_isi hg hm (by decide +kernel) (pa_cons ha.p (pa_cons (pe_bltn hg2 hm2 hv2 rfl hn2 hdb) pa_nil he2) he) (by decide) (by decide) he hpl, fun m σ H δ S d S' Q er sr hf q => by
    unfold eIsi at hf
    obtain ⟨⟨d1, S1⟩, q1, hf⟩ := Option.bind_eq_some_iff.mp hf
    obtain ⟨k, q2, hf⟩ := Option.bind_eq_some_iff.mp hf
    cases hf
    refine ha.s m σ H δ S d1 S1 _ er sr q1 fun v m1 H1 e1 s1 r1 => ?_
    obtain ⟨x, ex, h⟩ := s_isi hT m1 H1 [v] [d1] S1 (.bl k) Q (.cons r1 .nil) s1 (by simp [bIsi, q2]) fun v m2 H2 e2 s2 r2 => q v m2 H2 (e1.trans e2) s2 r2
    cases ex
    exact h⟩
/-! tuple(x), list(x), int(x), str(n), min(a, b), sum, all -/
def bTup : Bi := fun ds S => match ds with
  | [.tup xs] => some (.tup xs)
  | [d] => (seqL S d).bind fun xs => some (.tup xs)
  | _ => none
def rTupX (K : PySem.W.Frag) : List V → Hp → VK → Prop := fun xs H Q => ∃ p ys, xs = [.ref p] ∧ ((SqL K H p ys ∧ ∀ l, H l = none → Q (.ref l) (upd H l (.tup ys))) ∨ (SqT K H p ys ∧ Q (.ref p) H))
theorem s_tuple {K : PySem.W.Frag} : CSem C K (rTupX K) bTup := fun m H xs ds S d Q r sr hf q => by
  unfold bTup at hf
  split at hf
  · cases hf
    cases r with
    | cons r1 rr =>
      cases rr
      cases r1 with
      | tup h1 r2 => exact ⟨_, _, rfl, .inr ⟨h1, q _ m H .refl sr (.tup h1 r2)⟩⟩
  · obtain ⟨ys, h1, h2⟩ := Option.bind_eq_some_iff.mp hf
    cases h2
    cases r with
    | cons r1 rr =>
      cases rr
      obtain ⟨a, zs, ee, h4, h5⟩ := rp_seqL sr r1 h1
      subst ee
      exact ⟨_, _, rfl, .inl ⟨h4, fun p hp => q _ m _ (.lay hp) (sr.lay hp) (.tup (.of upd_same) (h5.ev (.lay hp)))⟩⟩
  · cases hf
def blList : Bl := fun ds S => match ds with
  | [.tup xs] => some xs
  | [d] => seqL S d
  | _ => none
def rListX (K : PySem.W.Frag) : List V → Hp → VK → Prop := fun xs H Q => ∃ p ys, xs = [.ref p] ∧ (SqL K H p ys ∨ SqT K H p ys) ∧ ∀ l, H l = none → Q (.ref l) (upd H l (.lst ys))
theorem s_list {K : PySem.W.Frag} : ClSem C K (rListX K) blList := fun m H xs ds S d Q r sr hf q => by
  unfold blList at hf
  split at hf
  · cases hf
    cases r with
    | cons r1 rr =>
      cases rr
      cases r1 with
      | tup h1 r2 => exact ⟨_, _, rfl, .inr h1, fun p hp => q p _ hp r2⟩
  · cases r with
    | cons r1 rr =>
      cases rr
      obtain ⟨a, zs, ee, h4, h5⟩ := rp_seqL sr r1 hf
      subst ee
      exact ⟨_, _, rfl, .inl h4, fun p hp => q p _ hp h5⟩
  · cases hf
/-- list(d) of a dict: its keys -/
def kD : Key → D
  | .inl i => .int i
  | .inr x => .str x
def dicS (S : List O) : D → Option (List (Key × D))
  | .dic ks => some ks
  | .ref n => match S[n]? with | some (.dic ks) => some ks | _ => none
  | _ => none
theorem rp_dicS {K : PySem.W.Frag} {m : M} {H : Hp} {S : List O} {v : V} {d : D} {ks : List (Key × D)} (s : SR C K m H S) (r : Rp K m H v d) (h : dicS S d = some ks) :
    ∃ a kvs, v = .ref a ∧ H a = some (.dK kvs) ∧ kvs.map (·.1) = ks.map (·.1) ∧ RpAll K m H (kvs.map (·.2)) (ks.map (·.2)) := by
  cases r with
  | dic h1 n k q => cases h; exact ⟨_, _, rfl, h1, k, q⟩
  | @ref a n hn =>
    have h : (match S[n]? with | some (O.dic ks) => some ks | _ => none) = some ks := h
    split at h
    · rename_i xs hs
      cases h
      obtain ⟨vs, h1, h2, h3⟩ := s.obj _ _ _ hn hs
      exact ⟨_, _, rfl, h1, h2, h3⟩
    · cases h
  | _ => cases h
def blListD : Bl := fun ds S => match ds with
  | [d] => (dicS S d).bind fun ks => some (ks.map fun k => kD k.1)
  | _ => none
theorem keys_rp {K : PySem.W.Frag} {m : M} {H : Hp} : ∀ {kvs : List (Key × V)} {ks : List (Key × D)}, kvs.map (·.1) = ks.map (·.1) → RpAll K m H (kvs.map fun kv => kV kv.1) (ks.map fun k => kD k.1)
  | [], [], _ => .nil
  | [], _ :: _, h => by simp at h
  | _ :: _, [], h => by simp at h
  | (k, v) :: kvs, (k', d) :: ks, h => by
    simp only [List.map_cons, List.cons.injEq] at h
    obtain ⟨h1, h2⟩ := h
    have h1 : k = k' := h1
    subst h1
    refine .cons ?_ (keys_rp h2)
    cases k
    · exact .int _
    · exact .str _
theorem s_listD {K : PySem.W.Frag} : ClSem C K rListD blListD := fun m H xs ds S d Q r sr hf q => by
  unfold blListD at hf
  split at hf
  · obtain ⟨ks, h1, h2⟩ := Option.bind_eq_some_iff.mp hf
    cases h2
    cases r with
    | cons r1 rr =>
      cases rr
      obtain ⟨a, kvs, ee, h4, h5, h6⟩ := rp_dicS sr r1 h1
      subst ee
      exact ⟨_, _, rfl, h4, fun p hp => q p _ hp (keys_rp h5)⟩
  · cases hf
def bInt : Bi := fun ds _ => match ds with
  | [.int i] => some (.int i)
  | [.bl k] => some (.int (if k then 1 else 0))
  | _ => none
theorem s_int {K : PySem.W.Frag} : CSem C K (fun xs H Q => (∃ i, xs = [.int i] ∧ Q (.int i) H) ∨ ∃ k, xs = [.bl k] ∧ Q (.int (if k then 1 else 0)) H) bInt := fun m H xs ds S d Q r sr hf q => by
  unfold bInt at hf
  split at hf
  · cases hf
    cases r with
    | cons r1 rr => cases rr; cases r1; exact .inl ⟨_, rfl, q _ m H .refl sr (.int _)⟩
  · cases hf
    cases r with
    | cons r1 rr => cases rr; cases r1; exact .inr ⟨_, rfl, q _ m H .refl sr (.int _)⟩
  · cases hf
def bStrI : Bi := fun ds _ => match ds with
  | [.int i] => if i.natAbs.log2 < 1920 then some (.str (toString i)) else none
  | _ => none
theorem s_strI {K : PySem.W.Frag} : CSem C K (fun xs H Q => ∃ i, xs = [.int i] ∧ i.natAbs.log2 < 1920 ∧ Q (.str (toString i)) H) bStrI := fun m H xs ds S d Q r sr hf q => by
  unfold bStrI at hf
  split at hf
  · split at hf
    · rename_i hl
      cases hf
      cases r with
      | cons r1 rr => cases rr; cases r1; exact ⟨_, rfl, hl, q _ m H .refl sr (.str _)⟩
    · cases hf
  · cases hf
def bMin : Bi := fun ds _ => match ds with
  | [.int i, .int j] => some (.int (if j < i then j else i))
  | _ => none
theorem s_min {K : PySem.W.Frag} : CSem C K (fun xs H Q => ∃ i j, xs = [.int i, .int j] ∧ Q (.int (if j < i then j else i)) H) bMin := fun m H xs ds S d Q r sr hf q => by
  unfold bMin at hf
  split at hf
  · cases hf
    cases r with
    | cons r1 rr => cases rr with | cons r2 rr => cases rr; cases r1; cases r2; exact ⟨_, _, rfl, q _ m H .refl sr (.int _)⟩
  · cases hf
end
end Cb
namespace Cb
open PySem L2

section
variable {X : Cx} {C : Addr} {pos : Pos} {a b c e tg : Expr} {es : List Expr} {ta tb tc te : TE} {tA : TA} {fa fb fc f : E} {g : A}
/-! ### targets -/
abbrev G := D → Sl → Option Sl
def GSem (C : Addr) (K : PySem.W.Frag) (t : TG) (g : G) (vs : List Nat) : Prop := ∀ m σ H δ S x d δ' Q, ER K m H σ δ → SR C K m H S → Rp K m H x d → g d δ = some δ' →
  (∀ σ', ER K m H σ' δ' → wipe σ' vs = wipe σ vs → Q σ' H) → t x σ H Q
structure RG (X : Cx) (C : Addr) (e : Expr) (t : TG) (g : G) (vs : List Nat) : Prop where
  p : PG X e t
  s : GSem C X.K t g vs
theorem wipe_set_out {σ : L2.St} {i : Nat} {o : Option V} : ∀ {vs : List Nat}, i ∈ vs → wipe (σ.set i o) vs = wipe σ vs
  | v :: vs, h => by
    unfold wipe
    by_cases hv : i ∈ vs
    · rw [wipe_set_out hv]
    · have e : i = v := by
        rcases List.mem_cons.mp h with q | q
        · exact q
        · exact absurd q hv
      subst e
      clear h
      have aux : ∀ (vs : List Nat) (σ : L2.St), i ∉ vs → wipe (σ.set i o) vs = (wipe σ vs).set i o := by
        intro vs
        induction vs with
        | nil => intro σ _; rfl
        | cons w ws ih =>
          intro σ hw
          unfold wipe
          rw [ih σ (fun z => hw (List.mem_cons_of_mem _ z)), List.set_comm _ _ (fun z => hw (by rw [z]; exact List.mem_cons_self))]
      rw [aux vs σ hv, List.set_set]
theorem wipe_wipe {σ : L2.St} : ∀ {vs ws : List Nat}, (∀ v ∈ ws, v ∈ vs) → wipe (wipe σ ws) vs = wipe σ vs
  | vs, [], _ => rfl
  | vs, w :: ws, h => by
    show wipe ((wipe σ ws).set w none) vs = _
    rw [wipe_set_out (h w List.mem_cons_self), wipe_wipe fun v hv => h v (List.mem_cons_of_mem _ hv)]
def wipeD (δ : Sl) : List Nat → Sl
  | [] => δ
  | v :: vs => (wipeD δ vs).set v none
theorem ER.wipe {K : PySem.W.Frag} {m : M} {H : Hp} {σ : L2.St} {δ : Sl} (h : ER K m H σ δ) : ∀ vs : List Nat, ER K m H (L2.wipe σ vs) (wipeD δ vs)
  | [] => h
  | v :: vs => (ER.wipe h vs).unset v
def gdName (i : Nat) : G := fun d δ => some (δ.set i (some d))
theorem rg_name {x : Str} {vs : List Nat} (i : Nat) (hv : i ∈ vs) (hN : X.N.Nodup) (hi : X.N[i]? = some x := by rfl) (hx : Loc X.env.scope x := by first | exact Or.inl rfl | exact Or.inr rfl) (hf : X.fn x = true ∨ X.env.scope.names.lookup x = some .local := by first | exact .inl rfl | exact .inr rfl | assumption) : RG X C (.Name x pos) (gName i) (gdName i) vs :=
  ⟨pg_name hN hi hx hf, fun m σ H δ S x d δ' Q er sr r h q => by
    cases h
    exact q _ (er.set i r) (wipe_set_out hv)⟩
abbrev Gs := List D → Sl → Option Sl
def GsSem (C : Addr) (K : PySem.W.Frag) (t : TGs) (g : Gs) (vs : List Nat) : Prop := ∀ m σ H δ S x d δ' Q, ER K m H σ δ → SR C K m H S → RpAll K m H x d → g d δ = some δ' →
  (∀ σ', ER K m H σ' δ' → wipe σ' vs = wipe σ vs → Q σ' H) → t x σ H Q
structure RGs (X : Cx) (C : Addr) (e : List Expr) (t : TGs) (g : Gs) (vs : List Nat) : Prop where
  p : PGs X e t
  s : GsSem C X.K t g vs
def gsNil : Gs := fun ds δ => match ds with | [] => some δ | _ => none
def gsCons (g : G) (gs : Gs) : Gs := fun ds δ => match ds with | d :: ds => (g d δ).bind fun δ1 => gs ds δ1 | _ => none
theorem rgs_nil {vs : List Nat} : RGs X C [] gNil gsNil vs := ⟨pgs_nil, fun m σ H δ S x d δ' Q er sr r h q => by
  unfold gsNil at h
  split at h
  · cases h; cases r; exact ⟨rfl, q _ er rfl⟩
  · cases h⟩
theorem rgs_cons {vs : List Nat} {t : TG} {ts : TGs} {g : G} {gs : Gs} (h1 : RG X C e t g vs) (h2 : RGs X C es ts gs vs) (hs : (assignEach (e :: es) X.env).map (·.2) = assign e X.env :: (assignEach es X.env).map (·.2) := by rfl) : RGs X C (e :: es) (gCons t ts) (gsCons g gs) vs := ⟨pgs_cons h1.p h2.p hs, fun m σ H δ S x d δ' Q er sr r h q => by
  unfold gsCons at h
  split at h
  · obtain ⟨δ1, q1, q2⟩ := Option.bind_eq_some_iff.mp h
    cases r with
    | cons r1 r2 =>
      refine ⟨_, _, rfl, h1.s m σ H δ S _ _ δ1 _ er sr r1 q1 fun σ1 er1 w1 => ?_⟩
      exact h2.s m σ1 H δ1 S _ _ δ' _ er1 sr r2 q2 fun σ2 er2 w2 => q σ2 er2 (w2.trans w1)
  · cases h⟩
def gdTup (n : Nat) (gs : Gs) : G := fun d δ => match d with | .tup ds => if ds.length = n then gs ds δ else none | _ => none
theorem rg_tup {vs : List Nat} {k n : Nat} {ts : TGs} {gs : Gs} (hc : X.calm = true) (h : RGs X C es ts gs vs) (hn : (assignEach es X.env).length = n := by rfl) (hst : (assignEach es X.env).findIdx? (·.1) = none := by rfl) : RG X C (.Tuple es k pos) (gTup X.K n ts) (gdTup n gs) vs :=
  ⟨pg_tup hc h.p hn hst, fun m σ H δ S x d δ' Q er sr r hh q => by
    unfold gdTup at hh
    split at hh
    · split at hh
      · rename_i hl
        cases r with
        | tup h1 r1 => exact ⟨_, _, rfl, h1, by rw [r1.length, hl], h.s m σ H δ S _ _ δ' _ er sr r1 hh q⟩
      · cases hh
    · cases hh⟩

/-! ### what is walked -/
/-- as Ev, and more may be hidden -/
structure EvH (m : M) (H : Hp) (m' : M) (H' : Hp) : Prop where
  ev : Ev m H ⟨m'.l, m.b⟩ H'
  hid : ∀ a, a ∈ m'.b → a ∈ m.b ∨ H a = none
theorem EvH.of {m m' : M} {H H' : Hp} (e : Ev m H m' H') : EvH m H m' H' := by
  obtain ⟨l, b⟩ := m'
  have hb : b = m.b := e.hid
  subst hb
  exact ⟨e, fun a h => .inl h⟩
theorem EvH.notin {m m' : M} {H H' : Hp} (e : EvH m H m' H') {a : Addr} {o : HO} (h : H a = some o) (n : ¬ m.has a) : ¬ m'.has a := fun z => by
  rcases z with z | z
  · exact e.ev.notin h n (.inl z)
  · rcases e.hid a z with q | q
    · exact n (.inr q)
    · rw [h] at q; cases q
mutual
theorem Rp.evH {K : PySem.W.Frag} {m m' : M} {H H' : Hp} (e : EvH m H m' H') : ∀ {v : V} {d : D}, Rp K m H v d → Rp K m' H' v d
  | _, _, .non => .non
  | _, _, .bl b => .bl b
  | _, _, .int i => .int i
  | _, _, .str x => .str x
  | _, _, .tup h r => .tup (e.ev.sqT h) (RpAll.evH e r)
  | _, _, .lst h n r => .lst (e.ev.keep _ _ h fun z => n (.inl z)) (e.notin h n) (RpAll.evH e r)
  | _, _, .scr h => .scr (e.ev.sqF h)
  | _, _, .dic h n k r => .dic (e.ev.keep _ _ h fun z => n (.inl z)) (e.notin h n) k (RpAll.evH e r)
  | _, _, .ref h => .ref (e.ev.at h)
theorem RpAll.evH {K : PySem.W.Frag} {m m' : M} {H H' : Hp} (e : EvH m H m' H') : ∀ {vs : List V} {ds : List D}, RpAll K m H vs ds → RpAll K m' H' vs ds
  | _, _, .nil => .nil
  | _, _, .cons r rs => .cons (Rp.evH e r) (RpAll.evH e rs)
end
mutual
/-- a hidden list grows: nothing else sees it -/
theorem Rp.over {K : PySem.W.Frag} {m : M} {H : Hp} {p : Addr} {zs : List V} {o : HO} (hp : p ∈ m.b) (hl : H p = some (.lst zs)) : ∀ {v : V} {d : D}, Rp K m H v d → Rp K m (upd H p o) v d
  | _, _, .non => .non
  | _, _, .bl b => .bl b
  | _, _, .int i => .int i
  | _, _, .str x => .str x
  | _, _, .tup h r => .tup (by
      rcases h with (h | ⟨u, h⟩) | h
      · exact .inl (.inl (by rw [upd_ne (fun e => by subst e; rw [h] at hl; cases hl)]; exact h))
      · exact .inl (.inr ⟨u, by rw [upd_ne (fun e => by subst e; rw [h] at hl; cases hl)]; exact h⟩)
      · exact .inr h) (RpAll.over hp hl r)
  | _, _, .lst h n r => .lst (by rw [upd_ne (fun e => by subst e; exact n (.inr hp))]; exact h) n (RpAll.over hp hl r)
  | _, _, .scr h => .scr (by
      rcases h with ⟨u, h⟩ | h
      · exact .inl ⟨u, by rw [upd_ne (fun e => by subst e; rw [h] at hl; cases hl)]; exact h⟩
      · exact .inr h)
  | _, _, .dic h n k r => .dic (by rw [upd_ne (fun e => by subst e; exact n (.inr hp))]; exact h) n k (RpAll.over hp hl r)
  | _, _, .ref h => .ref h
theorem RpAll.over {K : PySem.W.Frag} {m : M} {H : Hp} {p : Addr} {zs : List V} {o : HO} (hp : p ∈ m.b) (hl : H p = some (.lst zs)) : ∀ {vs : List V} {ds : List D}, RpAll K m H vs ds → RpAll K m (upd H p o) vs ds
  | _, _, .nil => .nil
  | _, _, .cons r rs => .cons (Rp.over hp hl r) (RpAll.over hp hl rs)
end
theorem SR.over {K : PySem.W.Frag} {m : M} {H : Hp} {S : List O} {p : Addr} {zs : List V} {o : HO} (s : SR C K m H S) (hp : p ∈ m.b) (hl : H p = some (.lst zs)) : SR C K m (upd H p o) S :=
  ⟨s.nd, s.len, fun n a ob h1 h2 => (s.obj n a ob h1 h2).mp (upd_ne (fun e => by subst e; exact s.apt a hp (List.mem_of_getElem? h1))) (RpAll.over hp hl), fun a ha => by
    by_cases e : a = p
    · rw [e, upd_same]; exact fun z => nomatch z
    · rw [upd_ne e]; exact s.hid a ha, s.apt⟩
theorem Ev.over {m m' : M} {H H' : Hp} {p : Addr} {o : HO} (e : Ev m H m' H') (hp : H p = none) : Ev m H m' (upd H' p o) :=
  ⟨e.pre, e.hid, e.new, fun a u h n => by rw [upd_ne (ne_of_none h hp)]; exact e.keep a u h n, fun a u h => by rw [upd_ne (ne_of_none h hp)]; exact e.tup a u h, fun a u v h => by rw [upd_ne (ne_of_none h hp)]; exact e.frz a u v h⟩
theorem EvH.keeps {m m' : M} {H H' : Hp} (e : EvH m H m' H') {a : Addr} {o : HO} (h : H a = some o) (n : a ∉ m.l) : H' a = some o := e.ev.keep a o h n
def Yld (C : Addr) (K : PySem.W.Frag) (J : It) (m0 : M) (H0 : Hp) (items : List D) : Prop := ∀ m H S, EvH m0 H0 m H → SR C K m H S →
  (∀ i, i < items.length → J.go i H) ∧ J.stop items.length H ∧ ∀ (i : Nat) d x H', items[i]? = some d → J.yld i H x H' → Ev m H m H' ∧ SR C K m H' S ∧ Rp K m H' x d
def ISem (C : Addr) (K : PySem.W.Frag) (wi : TI) (f : A) : Prop := ∀ m σ H δ S items S' R, ER K m H σ δ → SR C K m H S → f δ S = some (items, S') →
  (∀ J m' H', Ev m H m' H' → SR C K m' H' S' → Yld C K J m' H' items → R J H') → wi σ H R
structure RI (X : Cx) (C : Addr) (tg it : Expr) (wi : TI) (f : A) : Prop where
  p : PI X tg it wi
  s : ISem C X.K wi f
/-- a list that never changes -/
def seqP : D → Option (List D)
  | .lst xs => some xs
  | .scr ns => some (ns.map .int)
  | _ => none
theorem rp_seqP {K : PySem.W.Frag} {m : M} {H : Hp} {v : V} {d : D} {ds : List D} (r : Rp K m H v d) (h : seqP d = some ds) : ∃ a xs, v = .ref a ∧ (∀ m' H', EvH m H m' H' → SqL K H' a xs) ∧ RpAll K m H xs ds := by
  cases r with
  | lst h1 n r => cases h; exact ⟨_, _, rfl, fun m' H' e => .of (e.keeps h1 fun z => n (.inl z)), r⟩
  | scr h1 => cases h; exact ⟨_, _, rfl, fun m' H' e => (e.ev.sqF h1).sq, .ints _⟩
  | _ => cases h
def iSeq (f : E) : A := fun δ S => (f δ S).bind fun p => (seqP p.1).bind fun ds => some (ds, p.2)
theorem lt_get {α : Type} {l : List α} {i : Nat} (h : i < l.length) : ∃ x, l[i]? = some x := ⟨l[i], List.getElem?_eq_getElem h⟩
theorem ri_list (he : RE X C e te f) : RI X C tg e (iList X.K te) (iSeq f) := ⟨pi_list he.p, fun m σ H δ S items S' R er sr hf q => by
  unfold iSeq at hf
  obtain ⟨⟨d1, S1⟩, q1, hf⟩ := Option.bind_eq_some_iff.mp hf
  obtain ⟨ds, q2, hf⟩ := Option.bind_eq_some_iff.mp hf
  cases hf
  refine he.s m σ H δ S d1 S1 _ er sr q1 fun v m1 H1 e1 s1 r1 => ?_
  obtain ⟨a, xs, ee, h4, h5⟩ := rp_seqP r1 q2
  subst ee
  refine ⟨a, rfl, ⟨xs, h4 _ _ (.of .refl)⟩, q _ m1 H1 e1 s1 fun m2 H2 S2 e2 s2 => ?_⟩
  have hl := h5.length
  refine ⟨fun i hi => ?_, ⟨xs, h4 _ _ e2, by omega⟩, fun i d x H' hd y => ?_⟩
  · obtain ⟨x, hx⟩ := lt_get (l := xs) (i := i) (by omega)
    exact ⟨xs, x, h4 _ _ e2, hx⟩
  · obtain ⟨ey, y2⟩ := y
    subst ey
    obtain ⟨v, hv, rv⟩ := h5.get hd
    have := y2 xs (h4 _ _ e2)
    rw [hv] at this
    cases this
    exact ⟨.refl, s2, rv.evH e2⟩⟩
def iTupD (f : E) : A := fun δ S => (f δ S).bind fun p => match p.1 with | .tup ds => some (ds, p.2) | _ => none
theorem ri_tup (he : RE X C e te f) : RI X C tg e (iTup X.K te) (iTupD f) := ⟨pi_tup he.p, fun m σ H δ S items S' R er sr hf q => by
  unfold iTupD at hf
  obtain ⟨⟨d1, S1⟩, q1, hf⟩ := Option.bind_eq_some_iff.mp hf
  split at hf
  · rename_i ds hk
    have hk : d1 = .tup ds := hk
    subst hk
    cases hf
    refine he.s m σ H δ S _ S1 _ er sr q1 fun v m1 H1 e1 s1 r1 => ?_
    cases r1 with
    | @tup a xs _ h4 h5 =>
      refine ⟨a, rfl, ⟨xs, h4⟩, q _ m1 H1 e1 s1 fun m2 H2 S2 e2 s2 => ?_⟩
      have hl := h5.length
      refine ⟨fun i hi => ?_, ⟨xs, e2.ev.sqT h4, by omega⟩, fun i d x H' hd y => ?_⟩
      · obtain ⟨x, hx⟩ := lt_get (l := xs) (i := i) (by omega)
        exact ⟨xs, x, e2.ev.sqT h4, hx⟩
      · obtain ⟨ey, y2⟩ := y
        subst ey
        obtain ⟨v, hv, rv⟩ := h5.get hd
        have := y2 xs (e2.ev.sqT h4)
        rw [hv] at this
        cases this
        exact ⟨.refl, s2, rv.evH e2⟩
  · cases hf⟩
def iStrD (f : E) : A := fun δ S => (f δ S).bind fun p => match p.1 with | .str z => some (z.cps.toList.map fun c => .str ⟨#[c]⟩, p.2) | _ => none
theorem ri_str (he : RE X C e te f) : RI X C tg e (iStr te) (iStrD f) := ⟨pi_str he.p, fun m σ H δ S items S' R er sr hf q => by
  unfold iStrD at hf
  obtain ⟨⟨d1, S1⟩, q1, hf⟩ := Option.bind_eq_some_iff.mp hf
  split at hf
  · rename_i z hk
    have hk : d1 = .str z := hk
    subst hk
    cases hf
    refine he.s m σ H δ S _ S1 _ er sr q1 fun v m1 H1 e1 s1 r1 => ?_
    cases r1
    refine ⟨z, rfl, q _ m1 H1 e1 s1 fun m2 H2 S2 e2 s2 => ⟨fun i hi => ?_, ?_, fun i d x H' hd y => ?_⟩⟩
    · show i < z.cps.size
      simpa using hi
    · show z.cps.size ≤ _
      simp
    · obtain ⟨ey, c, hc, ex⟩ := y
      subst ey; subst ex
      have hc' : z.cps.toList[i]? = some c := by rw [Array.getElem?_toList]; exact hc
      rw [List.getElem?_map, hc'] at hd
      cases hd
      exact ⟨.refl, s2, .str _⟩
  · cases hf⟩
def rangeD (lo hi : Int) : List D := (List.range (hi - lo).toNat).map fun i => D.int (lo + (i : Nat))
def iRange1 (g : A) : A := fun δ S => (g δ S).bind fun p => match p.1 with
  | [.int j] => if -(2 ^ 62) ≤ j ∧ j < 2 ^ 62 then some (rangeD 0 j, p.2) else none
  | _ => none
def iRange2 (g : A) : A := fun δ S => (g δ S).bind fun p => match p.1 with
  | [.int i, .int j] => if -(2 ^ 62) ≤ i ∧ i < 2 ^ 62 ∧ -(2 ^ 62) ≤ j ∧ j < 2 ^ 62 then some (rangeD i j, p.2) else none
  | _ => none
theorem yld_range {K : PySem.W.Frag} {m : M} {H : Hp} (lo hi : Int) : Yld C K (Itr lo (hi - lo).toNat) m H (rangeD lo hi) := fun m2 H2 S2 e2 s2 => by
  have hl : (rangeD lo hi).length = (hi - lo).toNat := by simp [rangeD]
  refine ⟨fun i h => ?_, ?_, fun i d x H' hd y => ?_⟩
  · show i < (hi - lo).toNat
    omega
  · show (hi - lo).toNat ≤ _
    omega
  · obtain ⟨ey, ex⟩ := y
    subst ey; subst ex
    have hi' : i < (hi - lo).toNat := by
      have := (List.getElem?_eq_some_iff.mp hd).1
      omega
    unfold rangeD at hd
    rw [List.getElem?_map, List.getElem?_range hi'] at hd
    cases hd
    exact ⟨.refl, s2, .int _⟩
theorem ri_range1 {p : Pos} (hg : Gl X "range") (hm : X.mg "range" = none) (ha : RA X C [a] tA g) (hs : starEach [a] X.env = [(false, eval a X.env)] := by rfl) : RI X C tg (.Call (.Name "range" p) [a] [] pos) (iRng1 tA) (iRange1 g) := ⟨pi_range1 hg hm ha.p hs, fun m σ H δ S items S' R er sr hf q => by
  unfold iRange1 at hf
  obtain ⟨⟨ds, S1⟩, q1, hf⟩ := Option.bind_eq_some_iff.mp hf
  refine ha.s m σ H δ S _ S1 _ er sr q1 fun v m1 H1 e1 s1 r1 => ?_
  split at hf
  · rename_i j hk
    have hk : ds = [.int j] := hk
    subst hk
    split at hf
    · rename_i hb
      cases hf
      cases r1 with
      | cons r1 rr =>
        cases rr; cases r1
        have z := yld_range (C := C) (K := X.K) (m := m1) (H := H1) 0 j
        rw [Int.sub_zero] at z
        exact ⟨j, rfl, hb.1, hb.2, q _ m1 H1 e1 s1 z⟩
    · cases hf
  · cases hf⟩
theorem ri_range2 {p : Pos} (hg : Gl X "range") (hm : X.mg "range" = none) (ha : RA X C [a, b] tA g) (hs : starEach [a, b] X.env = [(false, eval a X.env), (false, eval b X.env)] := by rfl) (hs2 : starEach [b] X.env = [(false, eval b X.env)] := by rfl) : RI X C tg (.Call (.Name "range" p) [a, b] [] pos) (iRng2 tA) (iRange2 g) := ⟨pi_range2 hg hm ha.p hs hs2, fun m σ H δ S items S' R er sr hf q => by
  unfold iRange2 at hf
  obtain ⟨⟨ds, S1⟩, q1, hf⟩ := Option.bind_eq_some_iff.mp hf
  refine ha.s m σ H δ S _ S1 _ er sr q1 fun v m1 H1 e1 s1 r1 => ?_
  split at hf
  · rename_i i j hk
    have hk : ds = [.int i, .int j] := hk
    subst hk
    split at hf
    · rename_i hb
      cases hf
      cases r1 with
      | cons r1 rr =>
        cases rr with
        | cons r2 rr =>
          cases rr; cases r1; cases r2
          exact ⟨i, j, rfl, hb, q _ m1 H1 e1 s1 (yld_range i j)⟩
    · cases hf
  · cases hf⟩

/-! ### comprehensions -/
/-- the list's items from the walked ones, the slots as they are ahead of each turn -/
def lcD (gd : G) (c : T) (e : E) (δ : Sl) : List D → List O → Option (List D × List O)
  | [], S => some ([], S)
  | d :: ds, S => (gd d δ).bind fun δ1 => (c δ1 S).bind fun p => if p.1 = true then (e δ1 p.2).bind fun q => (lcD gd c e δ ds q.2).bind fun r => some (q.1 :: r.1, r.2) else lcD gd c e δ ds p.2
def tTrue : T := fun _ S => some (true, S)
def aLc (it : A) (gd : G) (c : T) (e : E) (vs : List Nat) : A := fun δ S => (it δ S).bind fun p => if p.1.length ≤ 10000000 then lcD gd c e (wipeD δ vs) p.1 p.2 else none
structure RTs (X : Cx) (C : Addr) (es : List Expr) (t : TT) (f : T) : Prop where
  p : PTs X es t
  s : TSem C X.K t f
theorem rts_nil : RTs X C [] tYes tTrue := ⟨pts_nil, fun m σ H δ S b S' Q er sr hf q => by cases hf; exact q m H .refl sr⟩
theorem rts_one {t : TT} {f : T} (h : RT X C e t f) : RTs X C [e] t f := ⟨pts_one h.p, h.s⟩
theorem small_acc {n : Nat} (h : n ≤ 10000000) : n < sizeLine := Nat.lt_of_le_of_lt h (by rw [sizeLine_eq]; decide)
theorem s_lc {K : PySem.W.Frag} {wi : TI} {gt : TG} {tt : TT} {it : A} {gd : G} {cf : T} {vs : List Nat} (hi : ISem C K wi it) (hg : GSem C K gt gd vs) (ht : TSem C K tt cf) (he : ESem C K te f) :
    LSem C K (tLc wi gt tt te vs) (aLc it gd cf f vs) := fun m σ H δ S ds S' Q er sr hf q => by
  unfold aLc at hf
  obtain ⟨⟨items, S1⟩, q1, hf⟩ := Option.bind_eq_some_iff.mp hf
  split at hf
  · rename_i hlen
    have hlen : items.length ≤ 10000000 := hlen
    refine hi m σ H δ S items S1 _ er sr q1 fun J m1 H1 e1 s1 Y p hp => ?_
    have hp0 : H p = none := e1.free s1 hp
    refine ⟨fun i n Hc => n = items.length - i ∧ i ≤ items.length ∧ ∃ lc Sc acc outs rest, Ev m1 H1 ⟨lc, m1.b⟩ Hc ∧ SR C K ⟨lc, p :: m1.b⟩ Hc Sc ∧ Hc p = some (.lst acc) ∧ acc.length ≤ i ∧ RpAll K ⟨lc, p :: m1.b⟩ Hc acc outs ∧
      lcD gd cf f (wipeD δ vs) (items.drop i) Sc = some (rest, S') ∧ ds = outs ++ rest ∧ ER K ⟨lc, p :: m1.b⟩ Hc σ δ, ⟨items.length, by simp, Nat.zero_le _, m1.l, S1, [], [], ds, .lay hp, s1.hideLay hp, upd_same, by simp, .nil, by simpa using hf, by simp, ?_⟩, ?_⟩
    · exact ⟨er.len, fun i d q => let ⟨v, a, b⟩ := (er.ev e1).get i d q; ⟨v, a, b.hide hp (.lay hp)⟩⟩
    rintro i n Hc ⟨rfl, hle, lc, Sc, acc, outs, rest, ey, sc, hacc, hal, racc, hl, hds, erc⟩
    have hpl : p ∉ lc := sc.apt p List.mem_cons_self
    obtain ⟨yg, ys, yy⟩ := Y ⟨lc, p :: m1.b⟩ Hc Sc ⟨ey, fun a ha => by
      rcases List.mem_cons.mp ha with q | q
      · subst q; exact .inr hp
      · exact .inl q⟩ sc
    by_cases hi' : i < items.length
    · refine .inr ⟨yg i hi', _, fun H' h => ⟨items.length - (i + 1), by omega, h⟩, fun x Hx y => ?_⟩
      obtain ⟨d, hd⟩ := lt_get hi'
      obtain ⟨ex, sx, rx⟩ := yy i d x Hx hd y
      have hdr : items.drop i = d :: items.drop (i + 1) := by
        rw [List.drop_eq_getElem_cons hi']
        rw [List.getElem?_eq_getElem hi'] at hd
        cases hd
        rfl
      rw [hdr] at hl
      unfold lcD at hl
      obtain ⟨δ1, g1, hl⟩ := Option.bind_eq_some_iff.mp hl
      obtain ⟨⟨b, S2⟩, c1, hl⟩ := Option.bind_eq_some_iff.mp hl
      have hx0 : Hx p = some (.lst acc) := ex.keep _ _ hacc hpl
      refine hg _ _ Hx _ Sc x d δ1 _ ((erc.ev ex).wipe vs) sx rx g1 fun σ1 er1 w1 => ⟨w1.trans (wipe_wipe fun v h => h), ?_⟩
      refine ht _ σ1 Hx δ1 Sc b S2 _ er1 sx c1 fun m2 H2 e2 s2 => ?_
      obtain ⟨l2, b2⟩ := m2
      have hb2 : b2 = p :: m1.b := e2.hid
      subst hb2
      have hx2 : H2 p = some (.lst acc) := e2.keep _ _ hx0 hpl
      have eyx : Ev m1 H1 ⟨lc, m1.b⟩ Hx := by
        refine { pre := ey.pre, hid := rfl, new := ey.new, tup := fun a u h => ex.tup _ _ (ey.tup _ _ h), frz := fun a u v h => ex.frz _ _ _ (ey.frz _ _ _ h), keep := fun a o h n => ?_ }
        have q := ey.keep a o h n
        refine ex.keep a o q fun z => ?_
        rcases ey.new a z with z | z
        · exact n z
        · rw [h] at z
          cases z
      have ey2 : Ev m1 H1 ⟨l2, m1.b⟩ H2 := eyx.trans ⟨e2.pre, rfl, e2.new, e2.keep, e2.tup, e2.frz⟩
      have hpl2 : p ∉ l2 := s2.apt p List.mem_cons_self
      cases b with
      | true =>
        have hl := hl
        rw [if_pos rfl] at hl ⊢
        obtain ⟨⟨d3, S3⟩, c3, hl⟩ := Option.bind_eq_some_iff.mp hl
        obtain ⟨⟨ds4, S4⟩, c4, hl⟩ := Option.bind_eq_some_iff.mp hl
        cases hl
        refine he _ σ1 H2 δ1 S2 d3 S3 _ (er1.ev e2) s2 c3 fun y m3 H3 e3 s3 r3 => ?_
        obtain ⟨l3, b3⟩ := m3
        have hb3 : b3 = p :: m1.b := e3.hid
        subst hb3
        have hx3 : H3 p = some (.lst acc) := e3.keep _ _ hx2 hpl2
        have ey3 : Ev m1 H1 ⟨l3, m1.b⟩ H3 := ey2.trans ⟨e3.pre, rfl, e3.new, e3.keep, e3.tup, e3.frz⟩
        have eall : Ev ⟨lc, p :: m1.b⟩ Hc ⟨l3, p :: m1.b⟩ H3 := ex.trans (e2.trans e3)
        refine ⟨acc, hx3, small_acc (by omega), rfl, hi', l3, S3, acc ++ [y], outs ++ [d3], ds4, ey3.over hp, s3.over List.mem_cons_self hx3, upd_same, by rw [List.length_append, List.length_singleton]; omega, ?_, c4, by rw [hds, List.append_assoc]; rfl, ?_⟩
        · exact RpAll.over List.mem_cons_self hx3 ((racc.ev eall).append (.cons r3 .nil))
        · exact ⟨erc.len, fun i d q => let ⟨v, a, b⟩ := (erc.ev eall).get i d q; ⟨v, a, b.over List.mem_cons_self hx3⟩⟩
      | false =>
        have hl := hl
        rw [if_neg (by exact Bool.false_ne_true)] at hl ⊢
        exact ⟨rfl, hi', l2, S2, acc, outs, rest, ey2, s2, hx2, by omega, racc.ev (ex.trans e2), hl, hds, erc.ev (ex.trans e2)⟩
    · have hi2 : i = items.length := by omega
      subst hi2
      refine .inl ⟨ys, ?_⟩
      rw [List.drop_length] at hl
      cases hl
      rw [List.append_nil] at hds
      subst hds
      exact q p acc ⟨lc, m1.b⟩ Hc (e1.trans ey) hp0 hacc sc racc
  · cases hf
end
end Cb
namespace Cb
open PySem PySem.Spec PyProof.Rows L2

section
variable {X : Cx} {C : Addr} {pos : Pos} {a b c e tg iter : Expr} {es : List Expr} {ta tb tc te : TE} {tA : TA} {fa fb fc f : E} {g : A}
/-! the widest readings -/
def cE (C : Addr) (K : PySem.W.Frag) (f : E) : TE := fun σ H Q => ∃ m δ S d S', ER K m H σ δ ∧ SR C K m H S ∧ f δ S = some (d, S') ∧ ∀ v m' H', Ev m H m' H' → SR C K m' H' S' → Rp K m' H' v d → Q v H'
def cT (C : Addr) (K : PySem.W.Frag) (f : T) : TT := fun σ H Q => ∃ m δ S d S', ER K m H σ δ ∧ SR C K m H S ∧ f δ S = some (d, S') ∧ ∀ m' H', Ev m H m' H' → SR C K m' H' S' → Q d H'
def cG (C : Addr) (K : PySem.W.Frag) (g : G) (vs : List Nat) : TG := fun x σ H Q => ∃ m δ S d δ', ER K m H σ δ ∧ SR C K m H S ∧ Rp K m H x d ∧ g d δ = some δ' ∧ ∀ σ', ER K m H σ' δ' → wipe σ' vs = wipe σ vs → Q σ' H
theorem RE.can {t : TE} (h : RE X C e t f) : RE X C e (cE C X.K f) f := ⟨⟨fun pins s σ H Q I ⟨m, δ, S, d, S', er, sr, hf, q⟩ => h.p.run pins s σ H Q I (h.s m σ H δ S d S' Q er sr hf q)⟩, fun m σ H δ S d S' Q er sr hf q => ⟨m, δ, S, d, S', er, sr, hf, q⟩⟩
theorem RTs.can {t : TT} {f : T} (h : RTs X C es t f) : RTs X C es (cT C X.K f) f := ⟨⟨fun pins s σ H Q I ⟨m, δ, S, d, S', er, sr, hf, q⟩ => h.p.run pins s σ H Q I (h.s m σ H δ S d S' Q er sr hf q)⟩, fun m σ H δ S d S' Q er sr hf q => ⟨m, δ, S, d, S', er, sr, hf, q⟩⟩
theorem RG.can {t : TG} {g : G} {vs : List Nat} (h : RG X C e t g vs) : RG X C e (cG C X.K g vs) g vs := ⟨⟨fun pins s σ H x v Q I r ⟨m, δ, S, d, δ', er, sr, rx, hf, q⟩ => h.p.run pins s σ H x v Q I r (h.s m σ H δ S x d δ' Q er sr rx hf q)⟩, fun m σ H δ S x d δ' Q er sr r hf q => ⟨m, δ, S, d, δ', er, sr, r, hf, q⟩⟩
structure RB (X : Cx) (C : Addr) (scope : Scope) (own : List (Str × Nat)) (tg : Expr) (ifs : List Expr) (elt : Expr) (gd : G) (cf : T) (f : E) : Prop where
  ok : BlkOk X.N X.env.scope scope own
  g : ∀ (s : Shared) (H : Hp) (C' : Addr) (cl : List (Str × Addr)) (fp : List Addr), ∃ t, RG (X.blk s H scope (compEnvC scope cl C' X.env) fp) C tg t gd (own.map (·.2))
  t : ∀ (s : Shared) (H : Hp) (C' : Addr) (cl : List (Str × Addr)) (fp : List Addr), ∃ t, RTs (X.blk s H scope (compEnvC scope cl C' X.env) fp) C ifs t cf
  e : ∀ (s : Shared) (H : Hp) (C' : Addr) (cl : List (Str × Addr)) (fp : List Addr), ∃ t, RE (X.blk s H scope (compEnvC scope cl C' X.env) fp) C elt t f
section
variable {elt : Expr} {ifs : List Expr} {scope : Scope} {own : List (Str × Nat)} {wi : TI} {it : A} {gd : G} {cf : T}
theorem RB.g' (b : RB X C scope own tg ifs elt gd cf f) (s : Shared) (H : Hp) (C' : Addr) (cl : List (Str × Addr)) (fp : List Addr) : RG (X.blk s H scope (compEnvC scope cl C' X.env) fp) C tg (cG C X.K gd (own.map (·.2))) gd (own.map (·.2)) :=
  let ⟨_, h⟩ := b.g s H C' cl fp; h.can
theorem RB.t' (b : RB X C scope own tg ifs elt gd cf f) (s : Shared) (H : Hp) (C' : Addr) (cl : List (Str × Addr)) (fp : List Addr) : RTs (X.blk s H scope (compEnvC scope cl C' X.env) fp) C ifs (cT C X.K cf) cf :=
  let ⟨_, h⟩ := b.t s H C' cl fp; h.can
theorem RB.e' (b : RB X C scope own tg ifs elt gd cf f) (s : Shared) (H : Hp) (C' : Addr) (cl : List (Str × Addr)) (fp : List Addr) : RE (X.blk s H scope (compEnvC scope cl C' X.env) fp) C elt (cE C X.K f) f :=
  let ⟨_, h⟩ := b.e s H C' cl fp; h.can
theorem rl_lc (hc : X.calm = true) (hN : X.N.Nodup) (hi : RI X C tg iter wi it) (b : RB X C scope own tg ifs elt gd cf f) (hs : ∀ x, foldedSetIterable iter X.env x = pure x := by intro _; rfl) :
    RL X C (.ListComp elt [⟨tg, iter, ifs, 0⟩] scope pos) (tLc wi (cG C X.K gd (own.map (·.2))) (cT C X.K cf) (cE C X.K f) (own.map (·.2))) (aLc it gd cf f (own.map (·.2))) :=
  ⟨pe_lc hc hN hi.p b.ok (fun s H C' cl fp => (b.g' s H C' cl fp).p) (fun s H C' cl fp => (b.t' s H C' cl fp).p) (fun s H C' cl fp => (b.e' s H C' cl fp).p) hs, s_lc hi.s (b.g' X.s_0 X.H_0 0 [] []).s (b.t' X.s_0 X.H_0 0 [] []).s (b.e' X.s_0 X.H_0 0 [] []).s⟩
end

/-! ### statements -/
def sSet (i : Nat) (f : E) : B := fun δ S => (f δ S).bind fun p => some (.nx (δ.set i (some p.1)) p.2)
theorem s_set {K : PySem.W.Frag} {i : Nat} (h : ESem C K te f) : SSem C K (tAsg te (gName i)) (sSet i f) := fun m σ H δ S o Z er sr hf q => by
  unfold sSet at hf
  obtain ⟨⟨d1, S1⟩, q1, hf⟩ := Option.bind_eq_some_iff.mp hf
  cases hf
  exact h m σ H δ S d1 S1 _ er sr q1 fun v m1 H1 e1 s1 r1 => q m1 _ H1 e1 ((er.ev e1).set i r1) s1
theorem rs_set {x : Str} {pos' : Pos} (i : Nat) (hN : X.N.Nodup) (he : RE X C e te f) (hi : X.N[i]? = some x := by rfl) (hx : Loc X.env.scope x := by first | exact Or.inl rfl | exact Or.inr rfl) (hs : swapsWith e (some (.Name x pos')) pos.line X.env = pure false := by rfl) (hf : X.fn x = true ∨ X.env.scope.names.lookup x = some .local := by first | exact .inl rfl | exact .inr rfl | assumption) :
    RS X C (.Assign [.Name x pos'] e pos) (tAsg te (gName i)) (sSet i f) := ⟨ps_set hN hi hx he.p hs hf, s_set he.s⟩
section
variable {elt : Expr} {ifs : List Expr} {scope : Scope} {own : List (Str × Nat)} {wi : TI} {it : A} {gd : G} {cf : T} {y : Str} {py spos : Pos}
theorem rs_lc (i : Nat) (hc : X.calm = true) (hN : X.N.Nodup) (hi : RI X C tg iter wi it) (b : RB X C scope own tg ifs elt gd cf f)
    (hsw : swapsWith (.ListComp elt [⟨tg, iter, ifs, 0⟩] scope pos) (some (.Name y py)) spos.line X.env = pure true)
    (hy : X.N[i]? = some y := by rfl) (hyl : X.env.scope.names.lookup y = some .local := by rfl) (hs : ∀ x, foldedSetIterable iter X.env x = pure x := by intro _; rfl) :
    RS X C (.Assign [.Name y py] (.ListComp elt [⟨tg, iter, ifs, 0⟩] scope pos) spos) (tAsg (tLc wi (cG C X.K gd (own.map (·.2))) (cT C X.K cf) (cE C X.K f) (own.map (·.2))) (gName i)) (sSet i (eL (aLc it gd cf f (own.map (·.2))))) :=
  ⟨ps_setLc hc hN hy hyl hsw hi.p b.ok (fun s H C' cl fp => (b.g' s H C' cl fp).p) (fun s H C' cl fp => (b.t' s H C' cl fp).p) (fun s H C' cl fp => (b.e' s H C' cl fp).p) hs,
    s_set (s_L (s_lc hi.s (b.g' X.s_0 X.H_0 0 [] []).s (b.t' X.s_0 X.H_0 0 [] []).s (b.e' X.s_0 X.H_0 0 [] []).s))⟩
theorem rs_lcM (i : Nat) (hc : X.calm = true) (hN : X.N.Nodup) (hi : RI X C tg iter wi it) (b : RB X C scope own tg ifs elt gd cf f)
    (hsw : swapsWith (.ListComp elt [⟨tg, iter, ifs, 0⟩] scope pos) (some (.Name y py)) spos.line X.env = pure true)
    (hy : X.N[i]? = some y := by rfl) (hyl : X.env.scope.names.lookup y = some .local := by rfl) (hs : ∀ x, foldedSetIterable iter X.env x = pure x := by intro _; rfl) :
    RS X C (.Assign [.Name y py] (.ListComp elt [⟨tg, iter, ifs, 0⟩] scope pos) spos) (tAsg (tLc wi (cG C X.K gd (own.map (·.2))) (cT C X.K cf) (cE C X.K f) (own.map (·.2))) (gName i)) (sSet i (eLM (aLc it gd cf f (own.map (·.2))))) :=
  ⟨ps_setLc hc hN hy hyl hsw hi.p b.ok (fun s H C' cl fp => (b.g' s H C' cl fp).p) (fun s H C' cl fp => (b.t' s H C' cl fp).p) (fun s H C' cl fp => (b.e' s H C' cl fp).p) hs,
    s_set (s_LM (s_lc hi.s (b.g' X.s_0 X.H_0 0 [] []).s (b.t' X.s_0 X.H_0 0 [] []).s (b.e' X.s_0 X.H_0 0 [] []).s))⟩
end
def sAsg (f : E) (g : G) : B := fun δ S => (f δ S).bind fun p => (g p.1 δ).bind fun δ' => some (.nx δ' p.2)
theorem rs_asg {gt : TG} {gd : G} {vs : List Nat} (he : RE X C e te f) (hg : RG X C tg gt gd vs) (hs : swapsWithSole [tg] e pos.line X.env = pure false := by rfl) (hw : swappedStores [tg] e X.env = pure none := by rfl) (hq : (assignEach [tg] X.env).map (·.2) = [assign tg X.env] := by rfl) : RS X C (.Assign [tg] e pos) (tAsg te gt) (sAsg f gd) :=
  ⟨ps_asg he.p hg.p hs hw hq, fun m σ H δ S o Z er sr hf q => by
    unfold sAsg at hf
    obtain ⟨⟨d1, S1⟩, q1, hf⟩ := Option.bind_eq_some_iff.mp hf
    obtain ⟨δ', q2, hf⟩ := Option.bind_eq_some_iff.mp hf
    cases hf
    refine he.s m σ H δ S d1 S1 _ er sr q1 fun v m1 H1 e1 s1 r1 => ?_
    exact hg.s m1 σ H1 δ S1 v d1 δ' _ (er.ev e1) s1 r1 q2 fun σ1 er1 _ => q m1 σ1 H1 e1 er1 s1⟩
def sRet (f : E) : B := fun δ S => (f δ S).bind fun p => some (.rt p.1 p.2)
theorem rs_ret (he : RE X C e te f) : RS X C (.Return (some e) pos) (tRet te) (sRet f) := ⟨ps_ret he.p, fun m σ H δ S o Z er sr hf q => by
  unfold sRet at hf
  obtain ⟨⟨d1, S1⟩, q1, hf⟩ := Option.bind_eq_some_iff.mp hf
  cases hf
  exact he.s m σ H δ S d1 S1 _ er sr q1 fun v m1 H1 e1 s1 r1 => q v m1 H1 e1 s1 r1⟩
def sExp (f : E) : B := fun δ S => (f δ S).bind fun p => some (.nx δ p.2)
theorem rs_expr (he : RE X C e te f) (hs : swapsWith e none pos.line X.env = pure false := by rfl) : RS X C (.Expr e pos) (tDrop te) (sExp f) := ⟨ps_expr he.p hs, fun m σ H δ S o Z er sr hf q => by
  unfold sExp at hf
  obtain ⟨⟨d1, S1⟩, q1, hf⟩ := Option.bind_eq_some_iff.mp hf
  cases hf
  exact he.s m σ H δ S d1 S1 _ er sr q1 fun v m1 H1 e1 s1 r1 => q m1 σ H1 e1 (er.ev e1) s1⟩
def sNext : B := fun δ S => some (.nx δ S)
def sSeq (x y : B) : B := fun δ S => (x δ S).bind fun o => match o with | .nx δ' S' => y δ' S' | o => some o
def sIf (c : T) (x y : B) : B := fun δ S => (c δ S).bind fun p => if p.1 = true then x δ p.2 else y δ p.2
def sNever : B := fun _ _ => none
variable {st : Stmt} {sts : List Stmt} {t1 t2 : TS} {b1 b2 : B} {tt : TT} {cf : T}
theorem rss_nil : RSs X C [] tNext sNext := ⟨pss_nil, fun m σ H δ S o Z er sr hf q => by cases hf; exact q m σ H .refl er sr⟩
theorem rss_cons (h1 : RS X C st t1 b1) (h2 : RSs X C sts t2 b2) : RSs X C (st :: sts) (tSeq t1 t2) (sSeq b1 b2) := ⟨pss_cons h1.p h2.p, fun m σ H δ S o Z er sr hf q => by
  unfold sSeq at hf
  obtain ⟨o1, q1, hf⟩ := Option.bind_eq_some_iff.mp hf
  refine h1.s m σ H δ S o1 _ er sr q1 ?_
  split at hf
  · exact fun m1 σ1 H1 e1 er1 s1 => h2.s m1 σ1 H1 _ _ o Z er1 s1 hf (q.ev e1)
  · cases hf
    cases o with
    | nx δ' S' => rename_i h; exact absurd rfl (h δ' S')
    | rt d S' => exact q
    | bk δ' S' => exact q
    | ct δ' S' => exact q⟩
theorem rss_one (h1 : RS X C st t1 b1) : RSs X C [st] t1 b1 := ⟨pss_one h1.p, h1.s⟩
theorem rs_if {x y : List Stmt} (hc : RT X C c tt cf) (h1 : RSs X C x t1 b1) (h2 : RSs X C y t2 b2) : RS X C (.If c x y pos) (tIfS tt t1 t2) (sIf cf b1 b2) := ⟨ps_if hc.p h1.p h2.p, fun m σ H δ S o Z er sr hf q => by
  unfold sIf at hf
  obtain ⟨⟨k, S1⟩, q1, hf⟩ := Option.bind_eq_some_iff.mp hf
  refine hc.s m σ H δ S k S1 _ er sr q1 fun m1 H1 e1 s1 => ?_
  cases k with
  | true => exact iteT (h1.s m1 σ H1 δ S1 o Z (er.ev e1) s1 hf (q.ev e1))
  | false => exact iteF (h2.s m1 σ H1 δ S1 o Z (er.ev e1) s1 hf (q.ev e1))⟩
theorem rs_never : RS X C st tNever sNever := ⟨ps_never, fun m σ H δ S o Z er sr hf q => by cases hf⟩
def sBrk : B := fun δ S => some (.bk δ S)
theorem rs_break : RS X C (.Break pos) tBreak sBrk := ⟨ps_break, fun m σ H δ S o Z er sr hf q => by cases hf; exact q m σ H .refl er sr⟩

/-! ### loops -/
def forD (gd : G) (b : B) : List D → Sl → List O → Option Out
  | [], δ, S => some (.nx δ S)
  | d :: ds, δ, S => (gd d δ).bind fun δ1 => (b δ1 S).bind fun o => match o with
    | .nx δ2 S2 => forD gd b ds δ2 S2
    | .ct δ2 S2 => forD gd b ds δ2 S2
    | .bk δ2 S2 => some (.nx δ2 S2)
    | .rt d S2 => some (.rt d S2)
def sFor (it : A) (gd : G) (b : B) : B := fun δ S => (it δ S).bind fun p => forD gd b p.1 δ p.2
theorem s_for {K : PySem.W.Frag} {wi : TI} {gt : TG} {it : A} {gd : G} {vs : List Nat} (hi : ISem C K wi it) (hg : GSem C K gt gd vs) (hb : SSem C K t1 b1) : SSem C K (tFor wi gt t1) (sFor it gd b1) := fun m σ H δ S o Z er sr hf q => by
  unfold sFor at hf
  obtain ⟨⟨items, S1⟩, q1, hf⟩ := Option.bind_eq_some_iff.mp hf
  refine hi m σ H δ S items S1 _ er sr q1 fun J m1 H1 e1 s1 Y => ?_
  refine ⟨fun i n σc Hc => n = items.length - i ∧ i ≤ items.length ∧ ∃ mc δc Sc, Ev m1 H1 mc Hc ∧ ER K mc Hc σc δc ∧ SR C K mc Hc Sc ∧ forD gd b1 (items.drop i) δc Sc = some o,
    ⟨items.length, by simp, Nat.zero_le _, m1, δ, S1, .refl, er.ev e1, s1, by simpa using hf⟩, ?_⟩
  rintro i n σc Hc ⟨rfl, hle, mc, δc, Sc, ec, erc, sc, hl⟩
  obtain ⟨yg, ys, yy⟩ := Y mc Hc Sc (.of ec) sc
  by_cases hi' : i < items.length
  · refine .inr ⟨yg i hi', _, fun σ' H' h => ⟨items.length - (i + 1), by omega, h⟩, fun x Hx y => ?_⟩
    obtain ⟨d, hd⟩ := lt_get hi'
    obtain ⟨ex, sx, rx⟩ := yy i d x Hx hd y
    have hdr : items.drop i = d :: items.drop (i + 1) := by
      rw [List.drop_eq_getElem_cons hi']
      rw [List.getElem?_eq_getElem hi'] at hd
      cases hd
      rfl
    rw [hdr] at hl
    unfold forD at hl
    obtain ⟨δ1, g1, hl⟩ := Option.bind_eq_some_iff.mp hl
    obtain ⟨o1, c1, hl⟩ := Option.bind_eq_some_iff.mp hl
    refine hg mc σc Hx δc Sc x d δ1 _ (erc.ev ex) sx rx g1 fun σ1 er1 _ => ?_
    refine hb mc σ1 Hx δ1 Sc o1 _ er1 sx c1 ?_
    cases o1 with
    | nx δ2 S2 => exact fun m2 σ2 H2 e2 er2 s2 => ⟨rfl, hi', m2, δ2, S2, ec.trans (ex.trans e2), er2, s2, hl⟩
    | ct δ2 S2 => exact fun m2 σ2 H2 e2 er2 s2 => ⟨rfl, hi', m2, δ2, S2, ec.trans (ex.trans e2), er2, s2, hl⟩
    | bk δ2 S2 => cases hl; exact fun m2 σ2 H2 e2 er2 s2 => q m2 σ2 H2 (e1.trans (ec.trans (ex.trans e2))) er2 s2
    | rt d S2 => cases hl; exact fun v m2 H2 e2 s2 r2 => q v m2 H2 (e1.trans (ec.trans (ex.trans e2))) s2 r2
  · have hi2 : i = items.length := by omega
    subst hi2
    rw [List.drop_length] at hl
    cases hl
    exact .inl ⟨ys, q mc σc Hc (e1.trans ec) erc sc⟩
theorem rs_for {body : List Stmt} {wi : TI} {gt : TG} {it : A} {gd : G} {vs : List Nat} (hp : PassesOwn (model X.prog X.w) X.A X.env X.xe) (hc : X.calm = true) (hi : RI X C tg iter wi it) (hg : RG X C tg gt gd vs) (hb : RSs X C body t1 b1)
    (hs : ∀ x, foldedSetIterable iter X.env x = pure x := by intro _; rfl) : RS X C (.For tg iter body [] pos) (tFor wi gt t1) (sFor it gd b1) := ⟨ps_for hp hc hi.p hg.p hb.p hs, s_for hi.s hg.s hb.s⟩
def whD (c : T) (b : B) : Nat → Sl → List O → Option Out
  | 0, _, _ => none
  | n + 1, δ, S => (c δ S).bind fun p => if p.1 = true then (b δ p.2).bind fun o => match o with
      | .nx δ2 S2 => whD c b n δ2 S2
      | .ct δ2 S2 => whD c b n δ2 S2
      | .bk δ2 S2 => some (.nx δ2 S2)
      | .rt d S2 => some (.rt d S2)
    else some (.nx δ p.2)
/-- turns enough for every loop here -/
def big : Nat := 1000000000000
def sWhile (c : T) (b : B) : B := fun δ S => whD c b big δ S
theorem s_wh {K : PySem.W.Frag} (hc : TSem C K tt cf) (hb : SSem C K t1 b1) (n0 : Nat) : SSem C K (tWhile tt t1) (fun δ S => whD cf b1 n0 δ S) := fun m σ H δ S o Z er sr hf q => by
  refine ⟨fun n σc Hc => ∃ mc δc Sc, Ev m H mc Hc ∧ ER K mc Hc σc δc ∧ SR C K mc Hc Sc ∧ whD cf b1 n δc Sc = some o, ⟨n0, m, δ, S, .refl, er, sr, hf⟩, ?_⟩
  rintro n σc Hc ⟨mc, δc, Sc, ec, erc, sc, hl⟩
  cases n with
  | zero => cases hl
  | succ n =>
    unfold whD at hl
    obtain ⟨⟨k, S1⟩, c1, hl⟩ := Option.bind_eq_some_iff.mp hl
    refine hc mc σc Hc δc Sc k S1 _ erc sc c1 fun m1 H1 e1 s1 => ?_
    cases k with
    | true =>
      have hl := hl
      rw [if_pos rfl] at hl ⊢
      obtain ⟨o1, c2, hl⟩ := Option.bind_eq_some_iff.mp hl
      refine ⟨fun σ' H' => ∃ mc δc Sc, Ev m H mc H' ∧ ER K mc H' σ' δc ∧ SR C K mc H' Sc ∧ whD cf b1 n δc Sc = some o, fun σ' H' h => ⟨n, Nat.lt_succ_self _, h⟩, ?_⟩
      refine hb m1 σc H1 δc S1 o1 _ (erc.ev e1) s1 c2 ?_
      cases o1 with
      | nx δ2 S2 => exact fun m2 σ2 H2 e2 er2 s2 => ⟨m2, δ2, S2, ec.trans (e1.trans e2), er2, s2, hl⟩
      | ct δ2 S2 => exact fun m2 σ2 H2 e2 er2 s2 => ⟨m2, δ2, S2, ec.trans (e1.trans e2), er2, s2, hl⟩
      | bk δ2 S2 => cases hl; exact fun m2 σ2 H2 e2 er2 s2 => q m2 σ2 H2 (ec.trans (e1.trans e2)) er2 s2
      | rt d S2 => cases hl; exact fun v m2 H2 e2 s2 r2 => q v m2 H2 (ec.trans (e1.trans e2)) s2 r2
    | false =>
      have hl := hl
      rw [if_neg (by exact Bool.false_ne_true)] at hl ⊢
      cases hl
      exact q m1 σc H1 (ec.trans e1) (erc.ev e1) s1
theorem rs_while {body : List Stmt} (hp : PassesOwn (model X.prog X.w) X.A X.env X.xe) (hc : RT X C c tt cf) (hb : RSs X C body t1 b1) : RS X C (.While c body [] pos) (tWhile tt t1) (sWhile cf b1) := ⟨ps_while hp hc.p hb.p, s_wh hc.s hb.s big⟩

/-! ### what changes an object -/
def setO (S : List O) (d : D) (f : O → Option O) : Option (List O) := match d with
  | .ref n => (S[n]?).bind fun o => (f o).bind fun o' => some (S.set n o')
  | _ => none
theorem setO_inv {S S' : List O} {d : D} {f : O → Option O} (h : setO S d f = some S') : ∃ n ob ob', d = .ref n ∧ S[n]? = some ob ∧ f ob = some ob' ∧ S' = S.set n ob' := by
  unfold setO at h
  split at h
  · obtain ⟨ob, q5, h⟩ := Option.bind_eq_some_iff.mp h
    obtain ⟨ob', q6, h⟩ := Option.bind_eq_some_iff.mp h
    cases h
    exact ⟨_, ob, ob', rfl, q5, q6, rfl⟩
  · cases h
/-- xs[i] = e -/
def sSetIx (fe fo fi : E) : B := fun δ S => (fe δ S).bind fun v => (fo δ v.2).bind fun o => (fi δ o.2).bind fun i => match i.1 with
  | .int k => (setO i.2 o.1 fun ob => match ob with | .lst xs => (ixN xs.length k).bind fun j => some (.lst (xs.set j v.1)) | _ => none).bind fun S' => some (.nx δ S')
  | _ => none
theorem rs_setIx {pos' : Pos} (pg : PE X a ta → PE X b tb → PG X (.Subscript a b pos') (L2.gSub ta tb rSetL)) (he : RE X C e te f) (ho : RE X C a ta fa) (hi : RE X C b tb fb) (hs : swapsWithSole [.Subscript a b pos'] e pos.line X.env = pure false := by rfl) (hw : swappedStores [.Subscript a b pos'] e X.env = pure none := by rfl)
    (hq : (assignEach [.Subscript a b pos'] X.env).map (·.2) = [assign (.Subscript a b pos') X.env] := by rfl) :
    RS X C (.Assign [.Subscript a b pos'] e pos) (tAsg te (L2.gSub ta tb rSetL)) (sSetIx f fa fb) := ⟨ps_asg he.p (pg ho.p hi.p) hs hw hq, fun m σ H δ S o Z er sr hf q => by
  unfold sSetIx at hf
  obtain ⟨⟨d1, S1⟩, q1, hf⟩ := Option.bind_eq_some_iff.mp hf
  obtain ⟨⟨d2, S2⟩, q2, hf⟩ := Option.bind_eq_some_iff.mp hf
  obtain ⟨⟨d3, S3⟩, q3, hf⟩ := Option.bind_eq_some_iff.mp hf
  split at hf
  · rename_i k hk
    have hk : d3 = .int k := hk
    subst hk
    obtain ⟨S4, q4, hf⟩ := Option.bind_eq_some_iff.mp hf
    cases hf
    refine he.s m σ H δ S d1 S1 _ er sr q1 fun v m1 H1 e1 s1 r1 => ?_
    refine ho.s m1 σ H1 δ S1 d2 S2 _ (er.ev e1) s1 q2 fun u m2 H2 e2 s2 r2 => ?_
    refine hi.s m2 σ H2 δ S2 _ S3 _ (er.ev (e1.trans e2)) s2 q3 fun w m3 H3 e3 s3 r3 => ?_
    cases r3
    have r2' := r2.ev e3
    have r1' := r1.ev (e2.trans e3)
    obtain ⟨n, ob, ob', ed, q5, q6, eS⟩ := setO_inv q4
    have ed : d2 = .ref n := ed
    subst ed
    subst eS
    dsimp only at q6
    split at q6
    · obtain ⟨j, q7, q6⟩ := Option.bind_eq_some_iff.mp q6
      cases q6
      cases r2' with
      | @ref p _ hn =>
        obtain ⟨xs, h1, h2⟩ := s3.obj _ _ _ hn q5
        obtain ⟨_, hu, ht, hf⟩ := s3.nottup (List.mem_of_getElem? hn)
        have es : Ev m3 H3 m3 (upd H3 p (.lst (xs.set j v))) := .set (List.mem_of_getElem? hn) hu ht hf
        refine ⟨_, _, _, _, rfl, rfl, h1, by rw [h2.length]; exact q7, ?_⟩
        exact q m3 σ _ (e1.trans (e2.trans (e3.trans es))) (er.ev (e1.trans (e2.trans (e3.trans es)))) (s3.put hn ⟨_, upd_same, ((h2.set r1' j).ev es)⟩)
    · cases q6
  · cases hf⟩
/-- xs.append(e) -/
def eAppend (fo fe : E) : E := fun δ S => (fo δ S).bind fun o => (fe δ o.2).bind fun v => (setO v.2 o.1 fun ob => match ob with | .lst xs => if xs.length < 16777216 then some (.lst (xs ++ [v.1])) else none | _ => none).bind fun S' => some (.non, S')
theorem lt_line {n : Nat} (h : n < 16777216) : n < sizeLine := by rw [sizeLine_eq]; exact h
theorem isL_ref {K : PySem.W.Frag} {m : M} {H : Hp} {S : List O} {v : V} {d : D} {n : Nat} {xs : List D} (s : SR C K m H S) (r : Rp K m H v (.ref n)) (h : S[n]? = some (.lst xs)) : ∃ p ys, m.l[n]? = some p ∧ v = .ref p ∧ H p = some (.lst ys) ∧ RpAll K m H ys xs := by
  cases r with
  | ref hn =>
    obtain ⟨ys, h1, h2⟩ := s.obj _ _ _ hn h
    exact ⟨_, ys, hn, rfl, h1, h2⟩
theorem ref_lives {K : PySem.W.Frag} {m m' : M} {H H' : Hp} {S S' : List O} {d : D} (h : S = S') : True := trivial
/-- a list method's reading, for a changing list: the list ahead of the argument is a list there, too -/
def isLst (S : List O) : D → Bool
  | .ref n => match S[n]? with | some (.lst _) => true | _ => false
  | _ => false
theorem tyV_isLst {K : PySem.W.Frag} {m : M} {H : Hp} {S : List O} {v : V} {d : D} (s : SR C K m H S) (r : Rp K m H v d) (h : isLst S d = true) : tyV K "list" v H := by
  cases r with
  | @ref a n hn =>
    have h : (match S[n]? with | some (O.lst _) => true | _ => false) = true := h
    split at h
    · rename_i xs hs
      obtain ⟨vs, h1, h2⟩ := s.obj _ _ _ hn hs
      exact .inl ⟨rfl, _, .inl (.inl h1)⟩
    · cases h
  | _ => cases h
def eMeth1 (k : D → D → List O → Option (D × List O)) (fo fe : E) : E := fun δ S => (fo δ S).bind fun o => if isLst o.2 o.1 = true then (fe δ o.2).bind fun v => k o.1 v.1 v.2 else none
def kAppend (o v : D) (S : List O) : Option (D × List O) := (setO S o fun ob => match ob with | .lst xs => if xs.length < 16777216 then some (.lst (xs ++ [v])) else none | _ => none).bind fun S' => some (.non, S')
theorem re_append {apos : Pos} (pe : PE X a ta → PA X [e] (tCons te tNil) → PE X (.Call (.Attribute a "append" apos) [e] [] pos) (tBM X.K "list" rAppend ta (tCons te tNil))) (ho : RE X C a ta fa) (he : RE X C e te f)
    (hs : starEach [e] X.env = (false, eval e X.env) :: starEach [] X.env := by rfl) : RE X C (.Call (.Attribute a "append" apos) [e] [] pos) (tBM X.K "list" rAppend ta (tCons te tNil)) (eMeth1 kAppend fa f) :=
  ⟨pe ho.p (pa_cons he.p pa_nil hs), fun m σ H δ S d S' Q er sr hf q => by
    unfold eMeth1 at hf
    obtain ⟨⟨d1, S1⟩, q1, hf⟩ := Option.bind_eq_some_iff.mp hf
    split at hf
    · rename_i hl
      obtain ⟨⟨d2, S2⟩, q2, hf⟩ := Option.bind_eq_some_iff.mp hf
      unfold kAppend at hf
      obtain ⟨S3, q4, hf⟩ := Option.bind_eq_some_iff.mp hf
      cases hf
      refine ho.s m σ H δ S d1 S1 _ er sr q1 fun v m1 H1 e1 s1 r1 => ⟨tyV_isLst s1 r1 hl, ?_⟩
      refine he.s m1 σ H1 δ S1 d2 S2 _ (er.ev e1) s1 q2 fun u m2 H2 e2 s2 r2 => ?_
      have r1' := r1.ev e2
      obtain ⟨n, ob, ob', ed, q5, q6, eS⟩ := setO_inv q4
      subst ed
      subst eS
      dsimp only at q6
      split at q6
      · split at q6
        · rename_i hz
          cases q6
          cases r1' with
          | @ref p _ hn =>
            obtain ⟨xs, h1, h2⟩ := s2.obj _ _ _ hn q5
            obtain ⟨_, hu, ht, hf⟩ := s2.nottup (List.mem_of_getElem? hn)
            have es : Ev m2 H2 m2 (upd H2 p (.lst (xs ++ [u]))) := .set (List.mem_of_getElem? hn) hu ht hf
            refine ⟨_, _, _, rfl, rfl, h1, by rw [h2.length]; exact lt_line hz, ?_⟩
            exact q _ m2 _ (e1.trans (e2.trans es)) (s2.put hn ⟨_, upd_same, (h2.append (.cons r2 .nil)).ev es⟩) .non
        · cases q6
      · cases q6
    · cases hf⟩
def kReverse (o : D) (S : List O) : Option (D × List O) := (setO S o fun ob => match ob with | .lst xs => some (.lst xs.reverse) | _ => none).bind fun S' => some (.non, S')
def eMeth0 (k : D → List O → Option (D × List O)) (fo : E) : E := fun δ S => (fo δ S).bind fun o => if isLst o.2 o.1 = true then k o.1 o.2 else none
theorem re_reverse {apos : Pos} (pe : PE X a ta → PE X (.Call (.Attribute a "reverse" apos) [] [] pos) (tBM0 X.K "list" rReverse ta)) (ho : RE X C a ta fa) : RE X C (.Call (.Attribute a "reverse" apos) [] [] pos) (tBM0 X.K "list" rReverse ta) (eMeth0 kReverse fa) :=
  ⟨pe ho.p, fun m σ H δ S d S' Q er sr hf q => by
    unfold eMeth0 at hf
    obtain ⟨⟨d1, S1⟩, q1, hf⟩ := Option.bind_eq_some_iff.mp hf
    split at hf
    · rename_i hl
      unfold kReverse at hf
      obtain ⟨S3, q4, hf⟩ := Option.bind_eq_some_iff.mp hf
      cases hf
      refine ho.s m σ H δ S d1 S1 _ er sr q1 fun v m1 H1 e1 s1 r1 => ⟨tyV_isLst s1 r1 hl, ?_⟩
      obtain ⟨n, ob, ob', ed, q5, q6, eS⟩ := setO_inv q4
      have ed : d1 = .ref n := ed
      subst ed
      subst eS
      split at q6
      · cases q6
        cases r1 with
        | @ref p _ hn =>
          obtain ⟨xs, h1, h2⟩ := s1.obj _ _ _ hn q5
          obtain ⟨_, hu, ht, hf⟩ := s1.nottup (List.mem_of_getElem? hn)
          have es : Ev m1 H1 m1 (upd H1 p (.lst xs.reverse)) := .set (List.mem_of_getElem? hn) hu ht hf
          refine ⟨_, _, rfl, rfl, h1, ?_⟩
          exact q _ m1 _ (e1.trans es) (s1.put hn ⟨_, upd_same, h2.reverse.ev es⟩) .non
      · cases q6
    · cases hf⟩

/-! ### functions -/
mutual
/-- no number of an object from n on -/
def okD (n : Nat) : D → Bool
  | .non | .bl _ | .int _ | .str _ | .scr _ => true
  | .tup xs => okDs n xs
  | .lst xs => okDs n xs
  | .dic ks => okKs n ks
  | .ref j => decide (j < n)
def okDs (n : Nat) : List D → Bool
  | [] => true
  | d :: ds => okD n d && okDs n ds
def okKs (n : Nat) : List (Key × D) → Bool
  | [] => true
  | (_, d) :: ds => okD n d && okKs n ds
end
theorem okKs_eq (n : Nat) : ∀ ks : List (Key × D), okKs n ks = okDs n (ks.map (·.2))
  | [] => rfl
  | (k, d) :: ks => by simp [okKs, okDs, okKs_eq n ks]
def okFs (n : Nat) (fs : List (Str × D)) : Bool := okDs n (fs.map (·.2))
def okO (n : Nat) : O → Bool
  | .lst xs => okDs n xs
  | .dic ks => okKs n ks
  | .ins fs => okFs n fs
def M.cut (m : M) (n : Nat) : M := ⟨m.l.take n, m.b⟩
mutual
theorem Rp.cut {K : PySem.W.Frag} {m : M} {H : Hp} {n : Nat} : ∀ {v : V} {d : D}, Rp K m H v d → okD n d = true → Rp K (m.cut n) H v d
  | _, _, .non, _ => .non
  | _, _, .bl b, _ => .bl b
  | _, _, .int i, _ => .int i
  | _, _, .str x, _ => .str x
  | _, _, .tup h r, c => .tup h (RpAll.cut' r (by simpa [okD] using c))
  | _, _, .lst h k r, c => .lst h (fun z => k (by
      rcases z with z | z
      · exact .inl (List.mem_of_mem_take z)
      · exact .inr z)) (RpAll.cut' r (by simpa [okD] using c))
  | _, _, .scr h, _ => .scr h
  | _, _, .dic h k l r, c => .dic h (fun z => k (by
      rcases z with z | z
      · exact .inl (List.mem_of_mem_take z)
      · exact .inr z)) l (RpAll.cut' r (by simpa [okD, okKs_eq] using c))
  | _, _, @Rp.ref _ _ _ a j h, c => .ref (by
      have hj : j < n := by simpa [okD] using c
      show (m.l.take n)[j]? = _
      rw [List.getElem?_take_of_lt hj]
      exact h)
theorem RpAll.cut' {K : PySem.W.Frag} {m : M} {H : Hp} {n : Nat} : ∀ {vs : List V} {ds : List D}, RpAll K m H vs ds → okDs n ds = true → RpAll K (m.cut n) H vs ds
  | _, _, .nil, _ => .nil
  | _, _, .cons r rs, c => by
    simp only [okDs, Bool.and_eq_true] at c
    exact .cons (Rp.cut r c.1) (RpAll.cut' rs c.2)
end
/-- what a def hands back, its own objects forgotten; a list or dict of its own becomes a value -/
def gcF (n : Nat) (p : D × List O) : Option (D × List O) :=
  if p.2.length ≤ n then some p else
  if (p.2.take n).all (okO n) = true then (match p.1 with
    | .ref j => if j < n then some (.ref j, p.2.take n) else (match p.2[j]? with
        | some (.lst xs) => if okDs n xs = true then some (.lst xs, p.2.take n) else none
        | some (.dic ks) => if okKs n ks = true then some (.dic ks, p.2.take n) else none
        | _ => none)
    | d => if okD n d = true then some (d, p.2.take n) else none)
  else none
def gcFn (F : Fn) : Fn := fun ds S => (F ds S).bind fun p => gcF S.length p
theorem cut_of {m m' : M} {H H' : Hp} {n : Nat} (e : Ev m H m' H') (hn : m.l.length = n) : m'.cut n = m := by
  obtain ⟨l, q⟩ := e.pre
  obtain ⟨l', b'⟩ := m'
  have hb : b' = m.b := e.hid
  have q : l' = m.l ++ l := q
  subst hb; subst q; subst hn
  show (⟨(m.l ++ l).take m.l.length, m.b⟩ : M) = m
  rw [List.take_left]
theorem Ev.cut {m m' : M} {H H' : Hp} (e : Ev m H m' H') : Ev m H m H' := ⟨⟨[], by simp⟩, rfl, fun _ h => .inl h, e.keep, e.tup, e.frz⟩
theorem SR.cut {K : PySem.W.Frag} {m m' : M} {H : Hp} {S' : List O} {n : Nat} (s : SR C K m' H S') (hm : m'.cut n = m) (ok : (S'.take n).all (okO n) = true) : SR C K m H (S'.take n) := by
  subst hm
  refine ⟨s.nd.sublist (List.take_sublist _ _), by show (m'.l.take n).length = _; simp [s.len], fun j a o h1 h2 => ?_, s.hid, fun a ha z => s.apt a ha (List.mem_of_mem_take z)⟩
  have h1 : (m'.l.take n)[j]? = some a := h1
  have hj : j < n := by
    have := (List.getElem?_eq_some_iff.mp h1).1
    simp at this; omega
  rw [List.getElem?_take_of_lt hj] at h1
  have hmem := List.mem_of_getElem? h2
  rw [List.getElem?_take_of_lt hj] at h2
  have k := List.all_eq_true.mp ok o hmem
  have r := s.obj j a o h1 h2
  cases o with
  | lst ds => obtain ⟨xs, h3, h4⟩ := r; exact ⟨xs, h3, h4.cut' k⟩
  | dic ks => obtain ⟨xs, h3, h4, h5⟩ := r; exact ⟨xs, h3, h4, h5.cut' (by rw [← okKs_eq]; exact k)⟩
  | ins fs => obtain ⟨dx, gs, h3, h4, h5⟩ := r; exact ⟨dx, gs, h3, h4, h5.cut' k⟩
theorem s_gc {K : PySem.W.Frag} {m m' : M} {H H' : Hp} {S S' S2 : List O} {v : V} {d d2 : D} (e : Ev m H m' H') (s0 : SR C K m H S) (s : SR C K m' H' S') (r : Rp K m' H' v d) (h : gcF S.length (d, S') = some (d2, S2)) : ∃ m2, Ev m H m2 H' ∧ SR C K m2 H' S2 ∧ Rp K m2 H' v d2 := by
  have hc := cut_of e s0.len
  unfold gcF at h
  split at h
  · cases h
    exact ⟨m', e, s, r⟩
  refine ⟨m, e.cut, ?_⟩
  split at h
  · rename_i ok
    have s' := s.cut hc ok
    split at h
    · rename_i j hk
      have hk : d = .ref j := hk
      subst hk
      split at h
      · rename_i hj
        cases h
        refine ⟨s', ?_⟩
        rw [← hc]
        exact r.cut (by simp [okD, hj])
      · rename_i hj
        have nin : ∀ a, m'.l[j]? = some a → ¬ m.has a := fun a ha z => by
          rcases z with z | z
          · obtain ⟨i, hi, ei⟩ := List.mem_iff_getElem.mp z
            have h1 : m.l[i]? = some a := by rw [List.getElem?_eq_getElem hi, ei]
            have h2 := e.at h1
            have := nd_ix s.nd h2 ha
            rw [← s0.len] at hj
            omega
          · refine s.apt a ?_ (List.mem_of_getElem? ha)
            rw [e.hid]; exact z
        cases r with
        | @ref a _ hn =>
          split at h
          · rename_i xs hs
            split at h
            · rename_i k
              cases h
              obtain ⟨vs, h1, h2⟩ := s.obj _ _ _ hn hs
              refine ⟨s', .lst h1 (nin a hn) ?_⟩
              rw [← hc]
              exact h2.cut' k
            · cases h
          · rename_i xs hs
            split at h
            · rename_i k
              cases h
              obtain ⟨vs, h1, h2, h3⟩ := s.obj _ _ _ hn hs
              refine ⟨s', .dic h1 (nin a hn) h2 ?_⟩
              rw [← hc]
              exact h3.cut' (by rw [← okKs_eq]; exact k)
            · cases h
          · cases h
    · split at h
      · rename_i k
        cases h
        refine ⟨s', ?_⟩
        rw [← hc]
        exact r.cut k
      · cases h
  · cases h

/-- a def's function from its body's -/
def fnD (n : Nat) (b : B) : Fn := fun ds S => (b (ds.map some ++ List.replicate (n - ds.length) none) S).bind fun o => match o with
  | .rt d S' => some (d, S')
  | .nx _ S' => some (.non, S')
  | _ => none
theorem er_start {K : PySem.W.Frag} {m : M} {H : Hp} {N : List Str} {vs : List V} {ds : List D} (r : RpAll K m H vs ds) : ER K m H (L2.start N vs) (ds.map some ++ List.replicate (N.length - ds.length) none) := by
  refine ⟨by simp [L2.start, r.length], fun i d h => ?_⟩
  unfold L2.start
  rw [r.length]
  by_cases hi : i < ds.length
  · rw [List.getElem?_append_left (by simpa using hi)] at h
    rw [List.getElem?_append_left (by simpa [r.length] using hi)]
    rw [List.getElem?_map] at h ⊢
    cases q : ds[i]? with
    | none => rw [q] at h; cases h
    | some d' =>
      rw [q] at h
      cases h
      obtain ⟨v, h1, h2⟩ := r.get q
      exact ⟨v, by rw [h1]; rfl, h2⟩
  · rw [List.getElem?_append_right (by simpa using hi)] at h
    have := List.mem_of_getElem? h
    have := (List.mem_replicate.mp this).2
    cases this
end
section
variable {P : Program} {w : World} {K : PySem.W.Frag} {mg : Str → Option Value} {base : Heap}
theorem fn_ok {C : Addr} {x qual : Str} {st : Stmt} {f : Addr} {fd : FuncData} {N ps : List Str} {k n : Nat} {b : B} (F : L2.Fun K x qual st f fd) (S : FnScope N ps (defScope st)) (hn : n = ps.length)
    (h : ∀ (cdv : Value) (A : Around) (outer : List Env) (s : Shared) (H : Hp) (E : XK), Room k (A.deeper (envOfC qual (defScope st) s.heap.objs.size f cdv)) → ∃ t, RSs (cxOf CX0 P w K mg base N qual (defScope st) f cdv A outer s H E).nox C (defBody st) t b) :
    FnOk P w K mg base CX0 (k + 1) f fd ps (spF C K n (fnD N.length b)) := by
  refine F.ok S (fun vs H Q E q => hn ▸ q.1) fun cdv A outer s H vs Q E hr q => ?_
  obtain ⟨t, ht⟩ := h cdv A outer s H E hr
  obtain ⟨hl, m, S0, ds, d, S', r, sr, hf, q⟩ := q
  refine ⟨t, ht.p, ?_⟩
  unfold fnD at hf
  obtain ⟨o, q1, hf⟩ := Option.bind_eq_some_iff.mp hf
  refine ht.s m _ H _ S0 o _ (er_start r) sr q1 ?_
  split at hf
  · cases hf; exact fun v m' H' e' s' r' => q v m' H' e' s' r'
  · cases hf; exact fun m' σ' H' e' er' s' => q .non m' H' e' s' .non
  · cases hf
theorem _root_.Cb.FnOk.gc {C f : Addr} {fd : FuncData} {ps : List Str} {k n : Nat} {F : Fn} (h : FnOk P w K mg base CX0 k f fd ps (spF C K n F)) : FnOk P w K mg base CX0 k f fd ps (spF C K n (gcFn F)) := by
  refine h.imp fun vs H Q E q => ?_
  obtain ⟨hl, m, S, ds, d, S', r, sr, hf, q⟩ := q
  unfold gcFn at hf
  obtain ⟨⟨d1, S1⟩, q1, hf⟩ := Option.bind_eq_some_iff.mp hf
  refine ⟨hl, m, S, ds, d1, S1, r, sr, q1, fun v m' H' e' s' r' => ?_⟩
  obtain ⟨m2, e2, s2, r2⟩ := s_gc e' sr s' r' hf
  exact q v m2 H' e2 s2 r2
theorem fn_none {C f : Addr} {fd : FuncData} {ps : List Str} {n : Nat} {k : Nat} : FnOk P w K mg base CX0 k f fd ps (spF C K n fun _ _ => none) := by
  have no : ∀ vs H Q E, ¬ spF C K n (fun _ _ => none) vs H Q E := fun vs H Q E ⟨_, _, _, _, _, _, _, _, h, _⟩ => nomatch h
  exact ⟨fun vs H Q E h => absurd h (no vs H Q E), fun A outer s H args us vs Q E _ _ _ _ h => absurd h (no vs H Q E)⟩
end
end Cb
namespace Cb
open PySem PySem.Spec PyProof.Rows L2

section
variable {X : Cx} {C : Addr} {pos : Pos} {a b c e tg iter : Expr} {es : List Expr} {ta tb tc te : TE} {tA : TA} {fa fb fc f : E} {g : A}
/-! ### in, not in: flat things -/
def flatD : D → Bool
  | .non | .bl _ | .int _ | .str _ => true
  | _ => false
def eqF : D → D → Bool
  | .non, .non => true
  | .bl a, .bl b => a == b
  | .bl a, .int b => (if a then 1 else 0) == b
  | .int a, .bl b => a == (if b then 1 else 0)
  | .int a, .int b => a == b
  | .str a, .str b => a == b
  | _, _ => false
def seqA (S : List O) : D → Option (List D)
  | .tup xs => some xs
  | d => seqL S d
theorem rp_seqA {K : PySem.W.Frag} {m : M} {H : Hp} {S : List O} {v : V} {d : D} {ds : List D} (s : SR C K m H S) (r : Rp K m H v d) (h : seqA S d = some ds) : ∃ a xs, v = .ref a ∧ (SqL K H a xs ∨ SqT K H a xs) ∧ RpAll K m H xs ds := by
  unfold seqA at h
  split at h
  · cases h
    cases r with
    | tup h1 r => exact ⟨_, _, rfl, .inr h1, r⟩
  · obtain ⟨a, xs, e, h1, h2⟩ := rp_seqL s r h
    exact ⟨a, xs, e, .inl h1, h2⟩
def dIn (neg : Bool) : Op2 := fun x y S => (seqA S y).bind fun ys => if flatD x = true ∧ ys.all flatD = true then some (.bl (if neg then !(ys.any fun z => eqF z x) else ys.any fun z => eqF z x)) else none
theorem Rp.flat {K : PySem.W.Frag} {m : M} {H : Hp} {v : V} {d : D} (r : Rp K m H v d) (h : flatD d = true) : flatV v = true := by
  cases r <;> first | rfl | cases h
theorem Rp.eqF {K : PySem.W.Frag} {m : M} {H : Hp} {v w : V} {d e : D} (r : Rp K m H v d) (q : Rp K m H w e) (h : flatD d = true) (h' : flatD e = true) : eqV v w = Cb.eqF d e := by
  cases r <;> cases q <;> first | rfl | (simp [flatD] at h; done) | (simp [flatD] at h'; done)
theorem RpAll.flat {K : PySem.W.Frag} {m : M} {H : Hp} : ∀ {vs : List V} {ds : List D}, RpAll K m H vs ds → ds.all flatD = true → vs.all flatV = true
  | _, _, .nil, _ => rfl
  | _, _, .cons r rs, h => by
    rw [List.all_cons, Bool.and_eq_true] at h ⊢
    exact ⟨r.flat h.1, RpAll.flat rs h.2⟩
theorem RpAll.anyF {K : PySem.W.Frag} {m : M} {H : Hp} {v : V} {d : D} (r : Rp K m H v d) (h : flatD d = true) : ∀ {vs : List V} {ds : List D}, RpAll K m H vs ds → ds.all flatD = true → inV v vs = ds.any fun z => Cb.eqF z d
  | _, _, .nil, _ => rfl
  | _, _, .cons q rs, h2 => by
    rw [List.all_cons, Bool.and_eq_true] at h2
    have ih := RpAll.anyF r h rs h2.2
    unfold inV at ih ⊢
    rw [List.any_cons, List.any_cons, ih, q.eqF r h2.1 h]
theorem s_in {K : PySem.W.Frag} {neg : Bool} : R2Sem C K (rIn K neg) (dIn neg) := fun m H x y d1 d2 S d Q r1 r2 sr hf q => by
  unfold dIn at hf
  obtain ⟨ys, h1, hf⟩ := Option.bind_eq_some_iff.mp hf
  split at hf
  · rename_i hc
    cases hf
    obtain ⟨a, xs, e, h2, h3⟩ := rp_seqA sr r2 h1
    subst e
    refine ⟨a, xs, rfl, h2, r1.flat hc.1, h3.flat hc.2, ?_⟩
    rw [RpAll.anyF r1 hc.1 h3 hc.2]
    exact q _ m H .refl sr (.bl _)
  · cases hf
theorem rc_in (ha : RE X C a ta fa) (hb : RE X C b tb fb) (hm : behindInMarks .In b = false := by rfl) : RC X C (.Compare a [.In] [b] pos) (tOp (rIn X.K false) ta tb) (eOp (dIn false) fa fb) := rc_op op_in_seq s_in ha hb hm
theorem rc_notin (ha : RE X C a ta fa) (hb : RE X C b tb fb) (hm : behindInMarks .NotIn b = false := by rfl) : RC X C (.Compare a [.NotIn] [b] pos) (tOp (rIn X.K true) ta tb) (eOp (dIn true) fa fb) := rc_op op_notIn_seq s_in ha hb hm
/-- one sign not in a text -/
def dNotSign : Op2 := fun x y _ => match x, y with
  | .str c, .str z => if c.cps.size = 1 then some (.bl (!decide (c.cps.getD 0 0 ∈ z.cps.toList))) else none
  | _, _ => none
theorem one_sign {c : Str} (h : c.cps.size = 1) : c = ⟨#[c.cps.getD 0 0]⟩ := by
  obtain ⟨cps⟩ := c
  obtain ⟨l⟩ := cps
  match l, h with
  | [x], _ => rfl
theorem s_notSign {K : PySem.W.Frag} : R2Sem C K (fun x y H Q => ∃ (c : Nat) (z : Str), x = .str ⟨#[c]⟩ ∧ y = .str z ∧ Q (.bl (!decide (c ∈ z.cps.toList))) H) dNotSign := fun m H x y d1 d2 S d Q r1 r2 sr hf q => by
  unfold dNotSign at hf
  split at hf
  · rename_i c z
    split at hf
    · rename_i h1
      cases hf; cases r1; cases r2
      exact ⟨c.cps.getD 0 0, z, by rw [← one_sign h1], rfl, q _ m H .refl sr (.bl _)⟩
    · cases hf
  · cases hf
theorem rc_notsign (ha : RE X C a ta fa) (hb : RE X C b tb fb) (hm : behindInMarks .NotIn b = false := by rfl) : RC X C (.Compare a [.NotIn] [b] pos) (tOp (fun x y H Q => ∃ (c : Nat) (z : Str), x = .str ⟨#[c]⟩ ∧ y = .str z ∧ Q (.bl (!decide (c ∈ z.cps.toList))) H) ta tb) (eOp dNotSign fa fb) := rc_op op_notIn_sign s_notSign ha hb hm

/-! ### methods of texts -/
def eS1 (k : Op2) (fo fe : E) : E := fun δ S => (fo δ S).bind fun o => match o.1 with
  | .str _ => (fe δ o.2).bind fun v => (k o.1 v.1 v.2).bind fun d => some (d, v.2)
  | _ => none
def MSem (C : Addr) (K : PySem.W.Frag) (r : V → List V → Hp → VK → Prop) (k : Op2) : Prop := ∀ m H x y d1 d2 S d Q, Rp K m H x d1 → Rp K m H y d2 → SR C K m H S → k d1 d2 S = some d →
  (∀ v m' H', Ev m H m' H' → SR C K m' H' S → Rp K m' H' v d → Q v H') → r x [y] H Q
theorem s_S1 {K : PySem.W.Frag} {r : V → List V → Hp → VK → Prop} {k : Op2} (hk : MSem C K r k) (ho : ESem C K ta fa) (he : ESem C K te f) : ESem C K (tM1 r ta te) (eS1 k fa f) := fun m σ H δ S d S' Q er sr hf q => by
  unfold eS1 at hf
  obtain ⟨⟨d1, S1⟩, q1, hf⟩ := Option.bind_eq_some_iff.mp hf
  split at hf
  · rename_i z hz
    have hz : d1 = .str z := hz
    subst hz
    obtain ⟨⟨d2, S2⟩, q2, hf⟩ := Option.bind_eq_some_iff.mp hf
    obtain ⟨d3, q3, hf⟩ := Option.bind_eq_some_iff.mp hf
    cases hf
    refine ho m σ H δ S _ S1 _ er sr q1 fun v m1 H1 e1 s1 r1 => ?_
    cases r1
    refine ⟨⟨z, rfl⟩, he m1 σ H1 δ S1 d2 S2 _ (er.ev e1) s1 q2 fun u m2 H2 e2 s2 r2 => ?_⟩
    exact hk m2 H2 _ u _ d2 S2 _ Q (.str z) r2 s2 q3 fun v m3 H3 e3 s3 r3 => q v m3 H3 (e1.trans (e2.trans e3)) s3 r3
  · cases hf
def strsD : List D → Option (List Str)
  | [] => some []
  | .str x :: ds => (strsD ds).bind fun xs => some (x :: xs)
  | _ => none
theorem strsD_eq : ∀ {ds : List D} {xs : List Str}, strsD ds = some xs → ds = xs.map D.str
  | [], xs, h => by cases h; rfl
  | d :: ds, xs, h => by
    cases d with
    | str x =>
      obtain ⟨ys, h1, h2⟩ := Option.bind_eq_some_iff.mp (show (strsD ds).bind (fun xs => some (x :: xs)) = some xs from h)
      cases h2
      rw [strsD_eq h1]
      rfl
    | _ => cases h
theorem RpAll.strs' {K : PySem.W.Frag} {m : M} {H : Hp} : ∀ {vs : List V} {xs : List Str}, RpAll K m H vs (xs.map D.str) → vs = xs.map V.str
  | [], [], _ => rfl
  | [], _ :: _, h => nomatch h
  | _ :: _, [], h => nomatch h
  | v :: vs, x :: xs, .cons r rs => by
    cases r
    rw [RpAll.strs' rs]
    rfl
def dJoin : Op2 := fun x y S => match x with
  | .str a => (seqA S y).bind fun ds => (strsD ds).bind fun xs => if (xs.map (·.length)).sum + xs.length * a.length ≤ 16777216 then some (.str (Txt.join a xs)) else none
  | _ => none
def rJoin (K : PySem.W.Frag) : V → List V → Hp → VK → Prop := fun x xs H Q => ∃ a p, ∃ ys : List Str, x = .str a ∧ xs = [.ref p] ∧ (SqL K H p (ys.map V.str) ∨ SqT K H p (ys.map V.str)) ∧
  (ys.map (·.length)).sum + ys.length * a.length ≤ 16777216 ∧ Q (.str (Txt.join a ys)) H
theorem s_join {K : PySem.W.Frag} : MSem C K (rJoin K) dJoin := fun m H x y d1 d2 S d Q r1 r2 sr hf q => by
  unfold dJoin at hf
  split at hf
  · obtain ⟨ds, h1, hf⟩ := Option.bind_eq_some_iff.mp hf
    obtain ⟨xs, h2, hf⟩ := Option.bind_eq_some_iff.mp hf
    split at hf
    · rename_i hl
      cases hf; cases r1
      obtain ⟨p, vs, e, h3, h4⟩ := rp_seqA sr r2 h1
      subst e
      have := strsD_eq h2
      subst this
      have := h4.strs'
      subst this
      exact ⟨_, p, xs, rfl, rfl, h3, hl, q _ m H .refl sr (.str _)⟩
    · cases hf
  · cases hf
theorem re_join {apos : Pos} (ho : RE X C a ta fa) (he : RE X C e te f) (hs : starEach [e] X.env = [(false, eval e X.env)] := by rfl) (hbase : attributeBase a "join" X.env (eval a X.env) = eval a X.env := by rfl) (hline : (apos.endLine == pos.line) = true := by rfl) :
    RE X C (.Call (.Attribute a "join" apos) [e] [] pos) (tM1 (rJoin X.K) ta te) (eS1 dJoin fa f) := ⟨pe_join ho.p he.p hs hbase hline, s_S1 s_join ho.s he.s⟩
def dStarts : Op2 := fun x y _ => match x, y with | .str a, .str b => some (.bl (Txt.startswith a b)) | _, _ => none
def dEnds : Op2 := fun x y _ => match x, y with | .str a, .str b => some (.bl (Txt.endswith a b)) | _, _ => none
theorem s_starts {K : PySem.W.Frag} : MSem C K (fun x xs H Q => ∃ a b, x = .str a ∧ xs = [.str b] ∧ Q (.bl (Txt.startswith a b)) H) dStarts := fun m H x y d1 d2 S d Q r1 r2 sr hf q => by
  unfold dStarts at hf
  split at hf
  · cases hf; cases r1; cases r2
    exact ⟨_, _, rfl, rfl, q _ m H .refl sr (.bl _)⟩
  · cases hf
theorem s_ends {K : PySem.W.Frag} : MSem C K (fun x xs H Q => ∃ a b, x = .str a ∧ xs = [.str b] ∧ Q (.bl (Txt.endswith a b)) H) dEnds := fun m H x y d1 d2 S d Q r1 r2 sr hf q => by
  unfold dEnds at hf
  split at hf
  · cases hf; cases r1; cases r2
    exact ⟨_, _, rfl, rfl, q _ m H .refl sr (.bl _)⟩
  · cases hf
theorem re_starts {apos : Pos} (ho : RE X C a ta fa) (he : RE X C e te f) (hs : starEach [e] X.env = [(false, eval e X.env)] := by rfl) (hbase : attributeBase a "startswith" X.env (eval a X.env) = eval a X.env := by rfl) (hline : (apos.endLine == pos.line) = true := by rfl) :
    RE X C (.Call (.Attribute a "startswith" apos) [e] [] pos) (tM1 (fun x xs H Q => ∃ a b, x = .str a ∧ xs = [.str b] ∧ Q (.bl (Txt.startswith a b)) H) ta te) (eS1 dStarts fa f) := ⟨pe_m1 PySem.F.slot_str_startswith PySem.F.type_str_startswith mt_startswith ho.p he.p hs hbase hline, s_S1 s_starts ho.s he.s⟩
theorem re_ends {apos : Pos} (ho : RE X C a ta fa) (he : RE X C e te f) (hs : starEach [e] X.env = [(false, eval e X.env)] := by rfl) (hbase : attributeBase a "endswith" X.env (eval a X.env) = eval a X.env := by rfl) (hline : (apos.endLine == pos.line) = true := by rfl) :
    RE X C (.Call (.Attribute a "endswith" apos) [e] [] pos) (tM1 (fun x xs H Q => ∃ a b, x = .str a ∧ xs = [.str b] ∧ Q (.bl (Txt.endswith a b)) H) ta te) (eS1 dEnds fa f) := ⟨pe_m1 PySem.F.slot_str_endswith PySem.F.type_str_endswith mt_endswith ho.p he.p hs hbase hline, s_S1 s_ends ho.s he.s⟩
end
theorem sqF_of {K : PySem.W.Frag} {H : Hp} {a : Addr} {xs : List V} (ho : Only H) (h : SqL K H a xs) : SqF K H a xs := by
  rcases h with (h | ⟨o, h⟩) | h
  · rcases ho a with z | ⟨o, ys, z⟩
    · rw [h] at z; cases z
    · rw [h] at z; cases z
  · exact .inl ⟨o, h⟩
  · exact .inr h
end Cb
namespace Cb
open PySem PySem.Spec PyProof.Rows L2

/-! ### enumerate(tuple) -/
def IteT (K : PySem.W.Frag) (a : Addr) : It :=
  ⟨fun i H => ∃ (xs : List V) (x : V), SqT K H a xs ∧ xs[i]? = some x, fun i H v H' => ∃ T x, v = .ref T ∧ H T = none ∧ H' = upd H T (.tup [.int (i : Nat), x]) ∧ ∀ xs, SqT K H a xs → xs[i]? = some x, fun i H => ∃ xs : List V, SqT K H a xs ∧ xs.length = i⟩
theorem enum_apart {h : Heap} {e it a : Addr} {c : Int} {old : Value} {its : Array Value} (he : IsEnum h e it c old) (p : h.IsTuple a its) : e ≠ a := by
  intro z
  subst z
  obtain ⟨o, ho, hc, _⟩ := p
  have he' : h.get? e = some _ := he
  rw [ho] at he'
  have := Option.some.inj he'
  rw [this] at hc
  have q : Value.type "enumerate" = Value.type "tuple" := hc
  simp at q
theorem tit_apart {h : Heap} {it a : Addr} {i : Nat} {its : Array Value} (hi : h.IsTupleIter it a i) (p : h.IsTuple a its) : a ≠ it := by
  intro z
  subst z
  obtain ⟨o, ho, hc, _⟩ := p
  obtain ⟨o', ho', hc', _⟩ := hi
  rw [ho] at ho'
  cases ho'
  rw [hc] at hc'
  simp at hc'
theorem turn_enumT {P : Program} {w : World} {K : PySem.W.Frag} {elts : List Expr} {kk : Nat} {tpos : Pos} (a e it : Addr) :
    Turn P w K (.Tuple elts kk tpos) (IteT K a) [e, it] e (fun i h => (∃ old, IsEnum h e it ((i : Nat) : Int) old) ∧ h.IsTupleIter it a i ∧ e ≠ it) where
  mem := by simp
  obj := fun i h st b hb => by
    obtain ⟨⟨old, he⟩, ⟨o, ho, hc, hd⟩, _⟩ := st
    have e' : b = e ∨ b = it := by simpa using hb
    rcases e' with z | z
    · rw [z]; exact ⟨_, he, fun v q => nomatch q⟩
    · rw [z]; exact ⟨o, ho, fun v q => by rw [hd] at q; cases q⟩
  keep := fun i h h' st k => let ⟨⟨old, he⟩, hi, hne⟩ := st; ⟨⟨old, k e (by simp) _ he⟩, hi.at fun o q => k it (by simp) o q, hne⟩
  item := by
    intro X hP hw hK hc i pins s σ H E I hf st hg
    subst hP hw hK
    obtain ⟨⟨old, he⟩, hit, hne⟩ := st
    obtain ⟨xs, x, hq, hx⟩ := hg
    obtain ⟨its, rv, p, hz⟩ := I.tuple hq
    have p' : s.heap.IsTuple a its.toArray := p
    obtain ⟨u, hu, ru⟩ := rv.get hx
    have hel : e < s.heap.objs.size := Heap.lt_size he
    have hil : it < s.heap.objs.size := by obtain ⟨_, q, _⟩ := hit; exact Heap.lt_size q
    have hiu : i < its.length := (List.getElem?_eq_some_iff.mp hu).1
    have hea := enum_apart he p'
    have hai := tit_apart hit p'
    refine wpAny_pyNext_enum_itemD (Draws.tuple (A := X.A.in1) (I.ok.hd hc) it a hai its.toArray) he ⟨hit, p'⟩ (by simpa using hiu) hne (by simp only [List.mem_cons, List.not_mem_nil, or_false]; exact fun z => z.elim hne hea) fun y h' tk hy ho hit' hT hsz hk => ?_
    have hyu : y = u := by
      have hy : its.toArray[i]? = some y := hy
      rw [List.getElem?_toArray, hu] at hy
      exact (Option.some.inj hy).symm
    subst hyu
    refine ⟨_, rfl, wpAny_letOwnedTupleGo_enum (s := { s with heap := h', toks := tk + 1 }) ho fun h'' he' sb => ?_⟩
    have hT2 : h''.get? s.heap.objs.size = some { cls := .type "tuple", data := .seq #[.int i tk, y] } := (sb.2 _ (Nat.ne_of_gt hel)).trans hT
    have new : ObjOk X.prog X.w (upd H s.heap.objs.size (.tup [.int (i : Nat), x])) h'' s.heap.objs.size (.tup [.int (i : Nat), x]) :=
      ⟨by show 2 ≤ sizeLine; decide, [.int i tk, y], .cons ⟨_, rfl⟩ (.cons ru .nil), ⟨_, hT2, rfl, _, rfl⟩⟩
    have I1 : Inv X pins σ (upd H s.heap.objs.size (.tup [.int (i : Nat), x])) { s with heap := h'', toks := tk + 1 } :=
      I.turnedNew (ch := [e, it]) (fun b ob hb q => (sb.2 b (fun z => hb (by simp [z]))).trans (hk b ob (fun z => hb (by simp [z])) (fun z => hb (by simp [z])) q)) hf (Nat.le_refl _) new
    refine ⟨.ref s.heap.objs.size, _, I1, rfl, ⟨_, x, rfl, I.hok.fresh (Nat.le_refl _), rfl, fun ys hy => by rw [I.tuple_inj hy hq]; exact hx⟩, ⟨⟨y, ?_⟩, hit'.1.at fun o q => (sb.2 it (Ne.symm hne)).trans q, hne⟩, fun b hb => ?_⟩
    · have e1 : ((i + 1 : Nat) : Int) = (i : Int) + 1 := by omega
      rw [e1]; exact he'
    · have hb' : b < s.heap.objs.size := by
        have e' : b = e ∨ b = it := by simpa using hb
        rcases e' with z | z
        · rw [z]; exact hel
        · rw [z]; exact hil
      rw [upd_ne (Nat.ne_of_lt hb')]
      exact (hf b hb).1
  done := by
    intro X hP hw hK hc i pins s σ H E I hf st hg
    subst hP hw hK
    obtain ⟨⟨old, he⟩, hit, hne⟩ := st
    obtain ⟨xs, hq, hx⟩ := hg
    obtain ⟨its, rv, p, hz⟩ := I.tuple hq
    have p' : s.heap.IsTuple a its.toArray := p
    obtain ⟨f0, f1, f2, f3, f4, f5⟩ := hf it (by simp)
    have hl := rv.length
    have hai := tit_apart hit p'
    have hn : i = its.toArray.size := by simp; omega
    subst hn
    exact wpAny_pyNext_enum_endD (Draws.tuple (A := X.A.in1) (I.ok.hd hc) it a hai its.toArray) he ⟨hit, p'⟩ fun h' eb => ⟨rfl, I.turned (t' := s.toks) (fun b o hb q => eb b o hb q) f0 f1 f3 f4 f5⟩
  self := fun A i s Q E st h => let ⟨⟨_, he⟩, _⟩ := st; wpAny_pyIter_enum he h
theorem meets_enumerate_newB1 {v : Value} {o : Obj} {H : Heap → Prop} (B : Begins v o H) :
    Meets (Builtin.«enumerate.__new__» ⟨[.type "enumerate", v], []⟩) (fun _ R s => H s.heap ∧
      R (.ok (.ret (.ref (s.heap.push o).objs.size))) { s with heap := (s.heap.push o).push { cls := .type "enumerate", data := .fields #[.none, .bool false, .ref s.heap.objs.size, rawInt 0, .none, .none] } }) :=
  .of_wp fun prog w A R s h => by
    obtain ⟨hp, g, d, tk, os⟩ := s; obtain ⟨h1, h⟩ := h
    have hsub := sub_enumerate
    have q1 : ∀ {A' : Around} {E : Value → Shared → Prop} {Q : Value → Shared → Prop}, Q (.ref hp.objs.size) ⟨hp.push o, g, d, tk, os⟩ → wpAny (model prog w) A' (pyIter v) Q E ⟨hp, g, d, tk, os⟩ :=
      fun q => B.iter prog w _ _ ⟨hp, g, d, tk, os⟩ _ h1 q
    wp_walk using q1
    refine wpAny_stack_any fun st => wpAny_pure ?_
    split
    · rename_i c _ _ _ _ _
      cases (c == Value.type "enumerate")
      · wp_walk using q1
        exact ⟨_, rfl, h⟩
      · wp_walk using q1
        exact ⟨_, rfl, h⟩
    · wp_walk using q1
      exact ⟨_, rfl, h⟩
theorem enum_begins1 {prog : Program} {w : World} {A : Around} {E : Value → Shared → Prop} {s : Shared} {v : Value} {o : Obj} {H : Heap → Prop} {Q : Value → Shared → Prop} (B : Begins v o H) (h1 : H s.heap)
    (h : ∀ h', IsEnum h' (s.heap.objs.size + 1) s.heap.objs.size 0 .none → h'.get? s.heap.objs.size = some o → h'.objs.size = s.heap.objs.size + 2 →
      (∀ b o, s.heap.get? b = some o → h'.get? b = some o) → Q (.ref (s.heap.objs.size + 1)) { s with heap := h' }) :
    wpAny (model prog w) A (call (.type "enumerate") [v]) Q E s := by
  refine callType_new F.called_enumerate (by decide) (F.typeCall_enumerate_1 _) (F.newCall_enumerate_1 _) (fun obj => F.args_object_init_2 obj _) F.entry_enumerate_new
    (meets_enumerate_newB1 B) ⟨h1, ?_⟩
  have hz : (s.heap.push o).objs.size = s.heap.objs.size + 1 := Heap.size_push ..
  show _ ∧ _
  rw [hz]
  have he : IsEnum ((s.heap.push o).push { cls := .type "enumerate", data := .fields #[.none, .bool false, .ref s.heap.objs.size, rawInt 0, .none, .none] }) (s.heap.objs.size + 1) s.heap.objs.size 0 .none := by
    have := Heap.get?_push_size (s.heap.push o) (o := { cls := .type "enumerate", data := .fields #[.none, .bool false, .ref s.heap.objs.size, rawInt 0, .none, .none] }) rfl
    rw [hz] at this; exact this
  refine ⟨⟨_, he, rfl⟩, h _ he (Heap.get?_push_of_some _ (Heap.get?_push_size _ B.free)) (by rw [Heap.size_push, hz]) fun b o x => Heap.get?_push_of_some _ (Heap.get?_push_of_some _ x)⟩
def iEnumT (K : PySem.W.Frag) (ta : TA) : TI := fun σ H R => ta σ H fun vs H1 => ∃ a xs, vs = [.ref a] ∧ SqT K H1 a xs ∧ R (IteT K a) H1
theorem pi_enumT {X : Cx} {e : Expr} {ta : TA} {p pos tpos : Pos} {elts : List Expr} {kk : Nat} (hg : Gl X "enumerate") (hm : X.mg "enumerate" = none) (ha : PA X [e] ta) (hs : starEach [e] X.env = [(false, eval e X.env)] := by rfl) :
    PI X (.Tuple elts kk tpos) (.Call (.Name "enumerate" p) [e] [] pos) (iEnumT X.K ta) := by
  refine ⟨fun pins s σ H R I h => ?_⟩
  refine Call_ (ld_blt I hg hm boot_enumerate (PyProof.Rows.callWith_type1 (thn (ha.run pos pins s σ H _ I h) fun us s1 ⟨vs, H1, I1, r1, q1⟩ => ?_) hs rfl))
  obtain ⟨a, xs, ex, hq, q⟩ := q1
  subst ex
  cases r1 with
  | cons r rr =>
    cases rr
    cases r
    obtain ⟨its, rv, p', hz⟩ := I1.tuple hq
    refine enum_begins1 (begins_tuple a its.toArray) p' fun h' he hit hsz hk => wpAny_pyIter_enum he ?_
    have I2 : Inv X pins σ H1 { s1 with heap := h' } := I1.kept (t' := s1.toks) hk
    refine ⟨s1.heap.objs.size + 1, [s1.heap.objs.size + 1, s1.heap.objs.size], _, _, H1, rfl, I2, turn_enumT a (s1.heap.objs.size + 1) s1.heap.objs.size, ⟨⟨.none, he⟩, ⟨_, hit, rfl, rfl⟩, Nat.succ_ne_self _⟩, fun b hb => ?_, q⟩
    have e' : b = s1.heap.objs.size + 1 ∨ b = s1.heap.objs.size := by simpa using hb
    have hle : s1.heap.objs.size ≤ b := by
      rcases e' with z | z
      · rw [z]; exact Nat.le_add_right _ _
      · rw [z]; exact Nat.le_refl _
    exact I1.fpOk hle (I1.hok.fresh hle)
section
variable {X : Cx} {C : Addr} {pos : Pos} {a b c e tg iter : Expr} {es : List Expr} {ta tb tc te : TE} {tA : TA} {fa fb fc f : E} {g : A}
def enumD : Nat → List D → List D
  | _, [] => []
  | i, d :: ds => .tup [.int (i : Nat), d] :: enumD (i + 1) ds
theorem enumD_len : ∀ (k : Nat) (ds : List D), (enumD k ds).length = ds.length
  | _, [] => rfl
  | k, d :: ds => by simp [enumD, enumD_len (k + 1) ds]
theorem enumD_get : ∀ (k : Nat) (ds : List D) (i : Nat), (enumD k ds)[i]? = (ds[i]?).map fun d => D.tup [.int ((k + i : Nat) : Int), d]
  | _, [], _ => by simp [enumD]
  | k, d :: ds, 0 => by simp [enumD]
  | k, d :: ds, i + 1 => by
    simp only [enumD, List.getElem?_cons_succ, enumD_get (k + 1) ds i]
    have : k + 1 + i = k + (i + 1) := by omega
    rw [this]
def iEnumD (f : E) : A := fun δ S => (f δ S).bind fun p => match p.1 with | .tup ds => some (enumD 0 ds, p.2) | _ => none
theorem ri_enum {elts : List Expr} {kk : Nat} {tpos p : Pos} (hg : Gl X "enumerate") (hm : X.mg "enumerate" = none) (he : RE X C e te f) (hs : starEach [e] X.env = [(false, eval e X.env)] := by rfl) : RI X C (.Tuple elts kk tpos) (.Call (.Name "enumerate" p) [e] [] pos) (iEnumT X.K (tCons te tNil)) (iEnumD f) :=
  ⟨pi_enumT hg hm (pa_cons he.p pa_nil hs) hs, fun m σ H δ S items S' R er sr hf q => by
    unfold iEnumD at hf
    obtain ⟨⟨d1, S1⟩, q1, hf⟩ := Option.bind_eq_some_iff.mp hf
    split at hf
    · rename_i ds hk
      have hk : d1 = .tup ds := hk
      subst hk
      cases hf
      refine he.s m σ H δ S _ S1 _ er sr q1 fun v m1 H1 e1 s1 r1 => ?_
      cases r1 with
      | @tup a xs _ h4 h5 =>
        refine ⟨a, xs, rfl, h4, q _ m1 H1 e1 s1 fun m2 H2 S2 e2 s2 => ?_⟩
        have hl := h5.length
        have hle := enumD_len 0 ds
        refine ⟨fun i hi => ?_, ⟨xs, e2.ev.sqT h4, by omega⟩, fun i d x H' hd y => ?_⟩
        · obtain ⟨x, hx⟩ := lt_get (l := xs) (i := i) (by omega)
          exact ⟨xs, x, e2.ev.sqT h4, hx⟩
        · obtain ⟨T, x', ev, hT, eH, y2⟩ := y
          subst ev; subst eH
          rw [enumD_get] at hd
          cases hdd : ds[i]? with
          | none => rw [hdd] at hd; cases hd
          | some d0 =>
            rw [hdd] at hd
            cases hd
            obtain ⟨v, hv, rv⟩ := h5.get hdd
            have := y2 xs (e2.ev.sqT h4)
            rw [hv] at this
            cases this
            refine ⟨.lay hT, s2.lay hT, .tup (.of upd_same) (.cons ?_ (.cons ((rv.evH e2).ev (.lay hT)) .nil))⟩
            have : (0 + i : Nat) = i := by omega
            rw [this]
            exact .int _
    · cases hf⟩
end
end Cb
namespace Cb
open PySem PySem.Spec PyProof.Rows L2

/-! ## dicts -/
def dK : D → Option Key
  | .int i => some (.inl i)
  | .str x => some (.inr x)
  | _ => none
def valD (ks : List (Key × D)) (k : Key) : Option D := (ks.find? fun kv => decide (kv.1 = k)).map (·.2)
def putD (ks : List (Key × D)) (k : Key) (d : D) : List (Key × D) :=
  if (ks.any fun kv => decide (kv.1 = k)) = true then ks.map (fun kv => if kv.1 = k then (kv.1, d) else kv) else ks ++ [(k, d)]
def mergeD (ks more : List (Key × D)) : List (Key × D) := more.foldl (fun acc kv => putD acc kv.1 kv.2) ks
theorem rp_key {K : PySem.W.Frag} {m : M} {H : Hp} {v : V} {d : D} {k : Key} (r : Rp K m H v d) (h : dK d = some k) : v = kV k := by
  unfold dK at h
  split at h
  · cases h; cases r; rfl
  · cases h; cases r; rfl
  · cases h
inductive DL (K : PySem.W.Frag) (m : M) (H : Hp) : List (Key × V) → List (Key × D) → Prop
  | nil : DL K m H [] []
  | cons {k : Key} {v : V} {d : D} {kvs : List (Key × V)} {ks : List (Key × D)} : Rp K m H v d → DL K m H kvs ks → DL K m H ((k, v) :: kvs) ((k, d) :: ks)
theorem DL.of {K : PySem.W.Frag} {m : M} {H : Hp} : ∀ {kvs : List (Key × V)} {ks : List (Key × D)}, kvs.map (·.1) = ks.map (·.1) → RpAll K m H (kvs.map (·.2)) (ks.map (·.2)) → DL K m H kvs ks
  | [], [], _, _ => .nil
  | [], _ :: _, h, _ => by simp at h
  | _ :: _, [], h, _ => by simp at h
  | (k, v) :: kvs, (k', d) :: ks, h, r => by
    simp only [List.map_cons, List.cons.injEq] at h r
    obtain ⟨h1, h2⟩ := h
    have h1 : k = k' := h1
    subst h1
    cases r with
    | cons r1 r2 => exact .cons r1 (DL.of h2 r2)
theorem DL.keys {K : PySem.W.Frag} {m : M} {H : Hp} {kvs : List (Key × V)} {ks : List (Key × D)} (r : DL K m H kvs ks) : kvs.map (·.1) = ks.map (·.1) := by
  induction r with
  | nil => rfl
  | cons r rs ih => simp [ih]
theorem DL.vals {K : PySem.W.Frag} {m : M} {H : Hp} {kvs : List (Key × V)} {ks : List (Key × D)} (r : DL K m H kvs ks) : RpAll K m H (kvs.map (·.2)) (ks.map (·.2)) := by
  induction r with
  | nil => exact .nil
  | cons r rs ih => exact .cons r ih
theorem DL.length {K : PySem.W.Frag} {m : M} {H : Hp} {kvs : List (Key × V)} {ks : List (Key × D)} (r : DL K m H kvs ks) : kvs.length = ks.length := by
  induction r with
  | nil => rfl
  | cons r rs ih => simp [ih]
theorem DL.val {K : PySem.W.Frag} {m : M} {H : Hp} {kvs : List (Key × V)} {ks : List (Key × D)} (r : DL K m H kvs ks) (k : Key) : (valD ks k = none ∧ valV kvs k = none) ∨ ∃ d v, valD ks k = some d ∧ valV kvs k = some v ∧ Rp K m H v d := by
  induction r with
  | nil => exact .inl ⟨rfl, rfl⟩
  | @cons j v d kvs ks r rs ih =>
    by_cases e : j = k
    · exact .inr ⟨d, v, by simp [valD, List.find?_cons, e], valV_pos (p := (j, v)) e, r⟩
    · have e1 : valD ((j, d) :: ks) k = valD ks k := by simp [valD, List.find?_cons, e]
      rw [e1, valV_neg (p := (j, v)) e]
      exact ih
theorem DL.any {K : PySem.W.Frag} {m : M} {H : Hp} {kvs : List (Key × V)} {ks : List (Key × D)} (r : DL K m H kvs ks) (k : Key) : (kvs.any fun kv => decide (kv.1 = k)) = ks.any fun kv => decide (kv.1 = k) := by
  induction r with
  | nil => rfl
  | cons r rs ih => simp only [List.any_cons, ih]
theorem DL.mp {K : PySem.W.Frag} {m : M} {H : Hp} {kvs : List (Key × V)} {ks : List (Key × D)} (r : DL K m H kvs ks) (k : Key) {v : V} {d : D} (q : Rp K m H v d) : DL K m H (kvs.map fun kv => if kv.1 = k then (kv.1, v) else kv) (ks.map fun kv => if kv.1 = k then (kv.1, d) else kv) := by
  induction r with
  | nil => exact .nil
  | @cons j v' d' kvs ks r rs ih =>
    simp only [List.map_cons]
    by_cases e : j = k
    · rw [if_pos e, if_pos e]; exact .cons q ih
    · rw [if_neg e, if_neg e]; exact .cons r ih
theorem DL.snoc {K : PySem.W.Frag} {m : M} {H : Hp} {kvs : List (Key × V)} {ks : List (Key × D)} (r : DL K m H kvs ks) (k : Key) {v : V} {d : D} (q : Rp K m H v d) : DL K m H (kvs ++ [(k, v)]) (ks ++ [(k, d)]) := by
  induction r with
  | nil => exact .cons q .nil
  | cons r rs ih => exact .cons r ih
theorem DL.put {K : PySem.W.Frag} {m : M} {H : Hp} {kvs : List (Key × V)} {ks : List (Key × D)} (r : DL K m H kvs ks) (k : Key) {v : V} {d : D} (q : Rp K m H v d) : DL K m H (putK kvs k v) (putD ks k d) := by
  unfold putK putD
  rw [r.any k]
  split
  · exact r.mp k q
  · exact r.snoc k q
theorem DL.merge {K : PySem.W.Frag} {m : M} {H : Hp} {more : List (Key × V)} {mores : List (Key × D)} (r : DL K m H more mores) : ∀ {kvs : List (Key × V)} {ks : List (Key × D)}, DL K m H kvs ks → DL K m H (mergeK kvs more) (mergeD ks mores) := by
  induction r with
  | nil => exact fun q => q
  | cons r rs ih => exact fun q => ih (q.put _ r)
theorem DL.ev {K : PySem.W.Frag} {m m' : M} {H H' : Hp} (e : Ev m H m' H') {kvs : List (Key × V)} {ks : List (Key × D)} (r : DL K m H kvs ks) : DL K m' H' kvs ks := by
  induction r with
  | nil => exact .nil
  | cons r rs ih => exact .cons (r.ev e) ih
theorem rp_dic {K : PySem.W.Frag} {m : M} {H : Hp} {S : List O} {v : V} {d : D} {ks : List (Key × D)} (s : SR C K m H S) (r : Rp K m H v d) (h : dicS S d = some ks) : ∃ a kvs, v = .ref a ∧ H a = some (.dK kvs) ∧ DL K m H kvs ks := by
  obtain ⟨a, kvs, e, h1, h2, h3⟩ := rp_dicS s r h
  exact ⟨a, kvs, e, h1, .of h2 h3⟩
section
variable {X : Cx} {C : Addr} {pos : Pos} {a b c e tg iter : Expr} {es : List Expr} {ta tb tc te : TE} {tA : TA} {fa fb fc f : E} {g : A}
/-! ### d[k], k in d, d.get(k, x), d[k] = v -/
def dGet : Op2 := fun x y S => (dicS S x).bind fun ks => (dK y).bind fun k => valD ks k
theorem s_dget {K : PySem.W.Frag} (ho : ESem C K ta fa) (hi : ESem C K tb fb) : ESem C K (tDGet ta tb) (eOp dGet fa fb) := fun m σ H δ S d S' Q er sr hf q => by
  unfold eOp dGet at hf
  obtain ⟨⟨d1, S1⟩, q1, hf⟩ := Option.bind_eq_some_iff.mp hf
  obtain ⟨⟨d2, S2⟩, q2, hf⟩ := Option.bind_eq_some_iff.mp hf
  obtain ⟨d3, q3, hf⟩ := Option.bind_eq_some_iff.mp hf
  cases hf
  obtain ⟨ks, q4, q3⟩ := Option.bind_eq_some_iff.mp q3
  obtain ⟨k, q5, q3⟩ := Option.bind_eq_some_iff.mp q3
  refine ho m σ H δ S d1 S1 _ er sr q1 fun v m1 H1 e1 s1 r1 => ?_
  refine hi m1 σ H1 δ S1 d2 S2 _ (er.ev e1) s1 q2 fun u m2 H2 e2 s2 r2 => ?_
  obtain ⟨p, kvs, ee, h1, h2⟩ := rp_dic s2 (r1.ev e2) q4
  subst ee
  have ek := rp_key r2 q5
  subst ek
  rcases h2.val k with ⟨z, _⟩ | ⟨d', v, z1, z2, r3⟩
  · rw [q3] at z; cases z
  · rw [q3] at z1; cases z1
    exact ⟨p, v, rfl, by rw [← z2]; exact .k h1, q v m2 H2 (e1.trans e2) s2 r3⟩
theorem re_dget (hu : X.A.units + 1 < cLine) (ho : RE X C a ta fa) (hi : RE X C b tb fb) (hs : NoSl b := by exact fun _ _ => rfl) : RE X C (.Subscript a b pos) (tDGet ta tb) (eOp dGet fa fb) := ⟨pe_dget hu ho.p hi.p hs, s_dget ho.s hi.s⟩
def dInK (neg : Bool) : Op2 := fun y x S => (dicS S x).bind fun ks => (dK y).bind fun k => some (.bl (if neg then !(valD ks k).isSome else (valD ks k).isSome))
def rInK (neg : Bool) : R2 := fun y x H Q => ∃ a o, x = .ref a ∧ DGet H a y o ∧ Q (.bl (if neg then !o.isSome else o.isSome)) H
theorem op_inK (hu : X.A.units + 1 < cLine) : OpR X (compareOp .In) (rInK false) := by
  intro pins s σ H y x u v Q I ry rx h
  obtain ⟨a, o, ex, g, q⟩ := h
  subst ex
  obtain rfl : v = Value.ref a := rx
  exact d_in hu I g ry fun s3 I3 => ⟨.bl o.isSome, H, I3, rfl, q⟩
theorem op_notInK (hu : X.A.units + 1 < cLine) : OpR X (compareOp .NotIn) (rInK true) := by
  intro pins s σ H y x u v Q I ry rx h
  obtain ⟨a, o, ex, g, q⟩ := h
  subst ex
  obtain rfl : v = Value.ref a := rx
  exact d_notIn hu I g ry fun s3 I3 => ⟨.bl (!o.isSome), H, I3, rfl, q⟩
theorem s_inK {K : PySem.W.Frag} {neg : Bool} : R2Sem C K (rInK neg) (dInK neg) := fun m H x y d1 d2 S d Q r1 r2 sr hf q => by
  unfold dInK at hf
  obtain ⟨ks, q4, hf⟩ := Option.bind_eq_some_iff.mp hf
  obtain ⟨k, q5, hf⟩ := Option.bind_eq_some_iff.mp hf
  cases hf
  obtain ⟨p, kvs, ee, h1, h2⟩ := rp_dic sr r2 q4
  subst ee
  have ek := rp_key r1 q5
  subst ek
  refine ⟨p, _, rfl, .k h1, ?_⟩
  have e : (valV kvs k).isSome = (valD ks k).isSome := by
    rcases h2.val k with ⟨z1, z2⟩ | ⟨d', v, z1, z2, r3⟩ <;> rw [z1, z2] <;> rfl
  rw [e]
  exact q _ m H .refl sr (.bl _)
theorem rc_din (hu : X.A.units + 1 < cLine) (ha : RE X C a ta fa) (hb : RE X C b tb fb) (hm : behindInMarks .In b = false := by rfl) : RC X C (.Compare a [.In] [b] pos) (tOp (rInK false) ta tb) (eOp (dInK false) fa fb) := rc_op (op_inK hu) s_inK ha hb hm
theorem rc_dnotin (hu : X.A.units + 1 < cLine) (ha : RE X C a ta fa) (hb : RE X C b tb fb) (hm : behindInMarks .NotIn b = false := by rfl) : RC X C (.Compare a [.NotIn] [b] pos) (tOp (rInK true) ta tb) (eOp (dInK true) fa fb) := rc_op (op_notInK hu) s_inK ha hb hm
def isDic (S : List O) (d : D) : Bool := (dicS S d).isSome
theorem isDic_is {K : PySem.W.Frag} {m : M} {H : Hp} {S : List O} {v : V} {d : D} (s : SR C K m H S) (r : Rp K m H v d) (h : isDic S d = true) : ∃ a, v = .ref a ∧ IsD H a := by
  obtain ⟨ks, hk⟩ := Option.isSome_iff_exists.mp h
  obtain ⟨a, kvs, e, h1, _⟩ := rp_dic s r hk
  exact ⟨a, e, .inl ⟨kvs, .inl h1⟩⟩
def eGet2 (f1 f2 f3 : E) : E := fun δ S => (f1 δ S).bind fun x => if isDic x.2 x.1 = true then (f2 δ x.2).bind fun y => (f3 δ y.2).bind fun z => (dicS z.2 x.1).bind fun ks => (dK y.1).bind fun k => some ((valD ks k).getD z.1, z.2) else none
theorem re_dget2 {apos : Pos} (hu : X.A.units + 1 < cLine) (ho : RE X C a ta fa) (he : RE X C b tb fb) (hf : RE X C c tc fc) (m : M2 X a "get" apos b c pos) : RE X C (.Call (.Attribute a "get" apos) [b, c] [] pos) (tDGet2 ta tb tc) (eGet2 fa fb fc) := ⟨pe_dget2 hu ho.p he.p hf.p m, fun m σ H δ S d S' Q er sr hf' q => by
  unfold eGet2 at hf'
  obtain ⟨⟨d1, S1⟩, q1, hf'⟩ := Option.bind_eq_some_iff.mp hf'
  split at hf'
  · rename_i hd
    obtain ⟨⟨d2, S2⟩, q2, hf'⟩ := Option.bind_eq_some_iff.mp hf'
    obtain ⟨⟨d3, S3⟩, q3, hf'⟩ := Option.bind_eq_some_iff.mp hf'
    obtain ⟨ks, q4, hf'⟩ := Option.bind_eq_some_iff.mp hf'
    obtain ⟨k, q5, hf'⟩ := Option.bind_eq_some_iff.mp hf'
    cases hf'
    refine ho.s m σ H δ S d1 S1 _ er sr q1 fun v m1 H1 e1 s1 r1 => ?_
    obtain ⟨p, ep, hD⟩ := isDic_is s1 r1 hd
    refine ⟨p, ep, hD, ?_⟩
    refine he.s m1 σ H1 δ S1 d2 S2 _ (er.ev e1) s1 q2 fun u m2 H2 e2 s2 r2 => ?_
    refine hf.s m2 σ H2 δ S2 d3 S3 _ (er.ev (e1.trans e2)) s2 q3 fun w m3 H3 e3 s3 r3 => ?_
    obtain ⟨p', kvs, ee, h1, h2⟩ := rp_dic s3 (r1.ev (e2.trans e3)) q4
    rw [ep] at ee
    cases ee
    have ek := rp_key r2 q5
    subst ek
    refine ⟨_, .k h1, ?_⟩
    rcases h2.val k with ⟨z1, z2⟩ | ⟨d', v', z1, z2, r4⟩
    · rw [z2]; exact q w m3 H3 (e1.trans (e2.trans e3)) s3 (by rw [z1]; exact r3)
    · rw [z2]; exact q v' m3 H3 (e1.trans (e2.trans e3)) s3 (by rw [z1]; exact r4)
  · cases hf'⟩
/-- d[k] = v, of a changing dict -/
def sDput (fe fo fi : E) : B := fun δ S => (fe δ S).bind fun v => (fo δ v.2).bind fun o => (fi δ o.2).bind fun i => (dK i.1).bind fun k =>
  (setO i.2 o.1 fun ob => match ob with | .dic ks => if ks.length < 1000 then some (.dic (putD ks k v.1)) else none | _ => none).bind fun S' => some (.nx δ S')
theorem rs_dput {pos' : Pos} (hu : X.A.units + 1 < cLine) (he : RE X C e te f) (ho : RE X C a ta fa) (hi : RE X C b tb fb) (hs : swapsWith e (some (.Subscript a b pos')) pos.line X.env = pure false := by rfl) :
    RS X C (.Assign [.Subscript a b pos'] e pos) (L2.sDPut ta tb te) (sDput f fa fb) := ⟨ps_dput hu ho.p hi.p he.p hs, fun m σ H δ S o Z er sr hf q => by
  unfold sDput at hf
  obtain ⟨⟨d1, S1⟩, q1, hf⟩ := Option.bind_eq_some_iff.mp hf
  obtain ⟨⟨d2, S2⟩, q2, hf⟩ := Option.bind_eq_some_iff.mp hf
  obtain ⟨⟨d3, S3⟩, q3, hf⟩ := Option.bind_eq_some_iff.mp hf
  obtain ⟨k, qk, hf⟩ := Option.bind_eq_some_iff.mp hf
  obtain ⟨S4, q4, hf⟩ := Option.bind_eq_some_iff.mp hf
  cases hf
  refine he.s m σ H δ S d1 S1 _ er sr q1 fun v m1 H1 e1 s1 r1 => ?_
  refine ho.s m1 σ H1 δ S1 d2 S2 _ (er.ev e1) s1 q2 fun u m2 H2 e2 s2 r2 => ?_
  refine hi.s m2 σ H2 δ S2 _ S3 _ (er.ev (e1.trans e2)) s2 q3 fun w m3 H3 e3 s3 r3 => ?_
  have ek := rp_key r3 qk
  subst ek
  have r2' := r2.ev e3
  have r1' := r1.ev (e2.trans e3)
  obtain ⟨n, ob, ob', ed, q5, q6, eS⟩ := setO_inv q4
  have ed : d2 = .ref n := ed
  subst ed
  subst eS
  dsimp only at q6
  split at q6
  · split at q6
    · rename_i ks hl
      cases q6
      cases r2' with
      | @ref p _ hn =>
        obtain ⟨kvs, h1, h2, h3⟩ := s3.obj _ _ _ hn q5
        have dl := DL.of h2 h3
        obtain ⟨_, hu, ht, hf⟩ := s3.nottup (List.mem_of_getElem? hn)
        have es : Ev m3 H3 m3 (upd H3 p (.dK (putK kvs k v))) := .set (List.mem_of_getElem? hn) hu ht hf
        have dl2 := (dl.put k r1').ev es
        refine ⟨p, _, rfl, .k h1 (by rw [dl.length]; exact Nat.lt_of_lt_of_le hl (le_size (Nat.le_refl _))), ?_⟩
        exact q m3 σ _ (e1.trans (e2.trans (e3.trans es))) (er.ev (e1.trans (e2.trans (e3.trans es)))) (s3.put hn ⟨_, upd_same, dl2.keys, dl2.vals⟩)
    · cases q6
  · cases q6⟩
/-! ### new dicts -/
def ddNew : DD := fun _ S => some ([], S)
theorem rd_new : RD X C (.Dict [] [] pos) tDNewK ddNew := ⟨pe_dnewK, fun m σ H δ S ds S' Q er sr hf q => by
  cases hf
  exact fun p hp => q p [] m _ (.lay hp) hp upd_same (sr.hideLay hp) rfl .nil⟩
abbrev PP := Sl → List O → Option (List (D × D) × List O)
def PSem (C : Addr) (K : PySem.W.Frag) (t : List (TE × TE)) (f : PP) : Prop := ∀ m σ H δ S ps S' Q, ER K m H σ δ → SR C K m H S → f δ S = some (ps, S') →
  (∀ vs m' H', Ev m H m' H' → SR C K m' H' S' → RpAll K m' H' (vs.map (·.1)) (ps.map (·.1)) → RpAll K m' H' (vs.map (·.2)) (ps.map (·.2)) → Q vs H') → tPairs t σ H Q
structure RPs (X : Cx) (C : Addr) (pos : Pos) (ks : List (Option Expr)) (vs : List Expr) (t : List (TE × TE)) (f : PP) : Prop where
  p : PPs X pos ks vs t
  s : PSem C X.K t f
def ppNil : PP := fun _ S => some ([], S)
def ppCons (f1 f2 : E) (g : PP) : PP := fun δ S => (f1 δ S).bind fun x => (f2 δ x.2).bind fun y => (g δ y.2).bind fun r => some ((x.1, y.1) :: r.1, r.2)
theorem rpps_nil : RPs X C pos [] [] [] ppNil := ⟨pps_nil, fun m σ H δ S ps S' Q er sr hf q => by cases hf; exact q [] m H .refl sr .nil .nil⟩
theorem rpps_cons {ks : List (Option Expr)} {vs : List Expr} {t : List (TE × TE)} {gp : PP} (ha : RE X C a ta fa) (hb : RE X C b tb fb) (hr : RPs X C pos ks vs t gp) : RPs X C pos (some a :: ks) (b :: vs) ((ta, tb) :: t) (ppCons fa fb gp) := ⟨pps_cons ha.p hb.p hr.p, fun m σ H δ S ps S' Q er sr hf q => by
  unfold ppCons at hf
  obtain ⟨⟨d1, S1⟩, q1, hf⟩ := Option.bind_eq_some_iff.mp hf
  obtain ⟨⟨d2, S2⟩, q2, hf⟩ := Option.bind_eq_some_iff.mp hf
  obtain ⟨⟨r, S3⟩, q3, hf⟩ := Option.bind_eq_some_iff.mp hf
  cases hf
  refine ha.s m σ H δ S d1 S1 _ er sr q1 fun v m1 H1 e1 s1 r1 => ?_
  refine hb.s m1 σ H1 δ S1 d2 S2 _ (er.ev e1) s1 q2 fun u m2 H2 e2 s2 r2 => ?_
  refine hr.s m2 σ H2 δ S2 r S3 _ (er.ev (e1.trans e2)) s2 q3 fun vs m3 H3 e3 s3 a3 b3 => ?_
  exact q ((v, u) :: vs) m3 H3 (e1.trans (e2.trans e3)) s3 (.cons (r1.ev (e2.trans e3)) a3) (.cons (r2.ev e3) b3)⟩
mutual
theorem Rp.overK {K : PySem.W.Frag} {m : M} {H : Hp} {p : Addr} {zs : List (Key × V)} {o : HO} (hp : p ∈ m.b) (hl : H p = some (.dK zs)) : ∀ {v : V} {d : D}, Rp K m H v d → Rp K m (upd H p o) v d
  | _, _, .non => .non
  | _, _, .bl b => .bl b
  | _, _, .int i => .int i
  | _, _, .str x => .str x
  | _, _, .tup h r => .tup (by
      rcases h with (h | ⟨u, h⟩) | h
      · exact .inl (.inl (by rw [upd_ne (fun e => by subst e; rw [h] at hl; cases hl)]; exact h))
      · exact .inl (.inr ⟨u, by rw [upd_ne (fun e => by subst e; rw [h] at hl; cases hl)]; exact h⟩)
      · exact .inr h) (RpAll.overK hp hl r)
  | _, _, .lst h n r => .lst (by rw [upd_ne (fun e => by subst e; exact n (.inr hp))]; exact h) n (RpAll.overK hp hl r)
  | _, _, .scr h => .scr (by
      rcases h with ⟨u, h⟩ | h
      · exact .inl ⟨u, by rw [upd_ne (fun e => by subst e; rw [h] at hl; cases hl)]; exact h⟩
      · exact .inr h)
  | _, _, .dic h n k r => .dic (by rw [upd_ne (fun e => by subst e; exact n (.inr hp))]; exact h) n k (RpAll.overK hp hl r)
  | _, _, .ref h => .ref h
theorem RpAll.overK {K : PySem.W.Frag} {m : M} {H : Hp} {p : Addr} {zs : List (Key × V)} {o : HO} (hp : p ∈ m.b) (hl : H p = some (.dK zs)) : ∀ {vs : List V} {ds : List D}, RpAll K m H vs ds → RpAll K m (upd H p o) vs ds
  | _, _, .nil => .nil
  | _, _, .cons r rs => .cons (Rp.overK hp hl r) (RpAll.overK hp hl rs)
end
theorem SR.overK {K : PySem.W.Frag} {m : M} {H : Hp} {S : List O} {p : Addr} {zs : List (Key × V)} {o : HO} (s : SR C K m H S) (hp : p ∈ m.b) (hl : H p = some (.dK zs)) : SR C K m (upd H p o) S :=
  ⟨s.nd, s.len, fun n a ob h1 h2 => (s.obj n a ob h1 h2).mp (upd_ne (fun e => by subst e; exact s.apt a hp (List.mem_of_getElem? h1))) (RpAll.overK hp hl), fun a ha => by
    by_cases e : a = p
    · rw [e, upd_same]; exact fun z => nomatch z
    · rw [upd_ne e]; exact s.hid a ha, s.apt⟩
def keysD : List (D × D) → Option (List (Key × D))
  | [] => some []
  | (k, d) :: r => (dK k).bind fun k => (keysD r).bind fun r => some ((k, d) :: r)
theorem keysD_rp {K : PySem.W.Frag} {m : M} {H : Hp} : ∀ {vs : List (V × V)} {ps : List (D × D)} {ks : List (Key × D)}, keysD ps = some ks → RpAll K m H (vs.map (·.1)) (ps.map (·.1)) → RpAll K m H (vs.map (·.2)) (ps.map (·.2)) →
    ∃ kvs : List (Key × V), vs = kvs.map (fun kv => (kV kv.1, kv.2)) ∧ DL K m H kvs ks
  | [], [], ks, h, _, _ => by cases h; exact ⟨[], rfl, .nil⟩
  | [], _ :: _, _, _, r, _ => by simp at r; cases r
  | _ :: _, [], _, _, r, _ => by simp at r; cases r
  | (v, u) :: vs, (k, d) :: ps, ks, h, r, q => by
    unfold keysD at h
    obtain ⟨k', h1, h⟩ := Option.bind_eq_some_iff.mp h
    obtain ⟨ks', h2, h⟩ := Option.bind_eq_some_iff.mp h
    cases h
    simp only [List.map_cons] at r q
    cases r with
    | cons r1 r2 =>
      cases q with
      | cons q1 q2 =>
        obtain ⟨kvs, e, dl⟩ := keysD_rp h2 r2 q2
        have ek := rp_key r1 h1
        have ek : v = kV k' := ek
        subst ek
        subst e
        exact ⟨(k', u) :: kvs, rfl, .cons q1 dl⟩
def ddDisp (g : PP) : DD := fun δ S => (g δ S).bind fun p => if p.1.length ≤ 15 then (keysD p.1).bind fun ks => some (mergeD [] ks, p.2) else none
theorem rd_disp {keys : List (Option Expr)} {values : List Expr} {t : List (TE × TE)} {gp : PP} (h : RPs X C pos keys values t gp) (hall : keys.all (·.isSome) = true := by rfl) (hl : keys.length = values.length := by rfl) (h0 : keys ≠ [] := by exact (fun z => nomatch z))
    (h15 : keys.length ≤ 15 := by decide) : RD X C (.Dict keys values pos) (tDisp t) (ddDisp gp) := ⟨pe_disp h.p hall hl h0 h15, fun m σ H δ S ds S' Q er sr hf q => by
  unfold ddDisp at hf
  obtain ⟨⟨ps, S1⟩, q1, hf⟩ := Option.bind_eq_some_iff.mp hf
  split at hf
  · rename_i hlen
    have hlen : ps.length ≤ 15 := hlen
    obtain ⟨ks, q2, hf⟩ := Option.bind_eq_some_iff.mp hf
    cases hf
    intro p hp
    have er' : ER X.K (m.hide p) (upd H p (.dK [])) σ δ := ⟨er.len, fun i d q => let ⟨v, a, b⟩ := er.get i d q; ⟨v, a, b.hide hp (.lay hp)⟩⟩
    refine h.s (m.hide p) σ _ δ S ps _ _ er' (sr.hideLay hp) q1 fun vs m2 H2 e2 s2 a2 b2 => ?_
    obtain ⟨l2, b2'⟩ := m2
    have hb2 : b2' = p :: m.b := e2.hid
    subst hb2
    have hpl : p ∉ m.l := sr.notl hp
    have hx2 : H2 p = some (.dK []) := e2.keep _ _ upd_same hpl
    obtain ⟨kvs, ev, dl⟩ := keysD_rp q2 a2 b2
    refine ⟨hx2, kvs, ev, ?_, ?_⟩
    · have h1 := a2.length
      rw [List.length_map, List.length_map, ev, List.length_map] at h1
      omega
    · have e3 : Ev m H ⟨l2, m.b⟩ H2 := (Ev.lay hp).trans ⟨e2.pre, rfl, e2.new, e2.keep, e2.tup, e2.frz⟩
      have dm := dl.merge (.nil (K := X.K) (m := ⟨l2, p :: m.b⟩) (H := H2))
      exact q p _ ⟨l2, m.b⟩ _ (e3.over hp) hp upd_same (s2.overK List.mem_cons_self hx2) dm.keys (RpAll.overK List.mem_cons_self hx2 dm.vals)
  · cases hf⟩
/-! ### dict(d), dict(pairs) -/
abbrev Bd := List D → List O → Option (List (Key × D))
def CdSem (C : Addr) (K : PySem.W.Frag) (r : List V → Hp → VK → Prop) (g : Bd) : Prop := ∀ m H xs ds S d Q, RpAll K m H xs ds → SR C K m H S → g ds S = some d →
  (∀ p ys, H p = none → DL K m H ys d → Q (.ref p) (upd H p (.dK ys))) → r xs H Q
def ddBi (k : Bd) (g : A) : DD := fun δ S => (g δ S).bind fun p => (k p.1 p.2).bind fun d => some (d, p.2)
theorem s_bd {K : PySem.W.Frag} {r : List V → Hp → VK → Prop} {k : Bd} (hc : CdSem C K r k) (h : ASem C K tA g) : DSem C K (tCB r tA) (ddBi k g) := fun m σ H δ S d S' Q er sr hf q => by
  unfold ddBi at hf
  obtain ⟨⟨ds, S1⟩, q1, hf⟩ := Option.bind_eq_some_iff.mp hf
  obtain ⟨d2, q2, hf⟩ := Option.bind_eq_some_iff.mp hf
  cases hf
  refine h m σ H δ S ds S1 _ er sr q1 fun vs m1 H1 e1 s1 r1 => ?_
  exact hc m1 H1 vs ds S1 _ _ r1 s1 q2 fun p ys hp r2 => q p ys m1 _ (e1.trans (.lay hp)) (e1.free s1 hp) upd_same (s1.hideLay hp) r2.keys (r2.vals.hide hp (.lay hp))
theorem rd_callTy {T : String} {x : Str} {r : List V → Hp → VK → Prop} {k : Bd} {p : Pos} (hc : CallR X (.type T) r) (hs : CdSem C X.K r k) (hg : Gl X x) (hm : X.mg x = none) (hv : bootBuiltins x = some (.type T)) (ha : RA X C (e :: es) tA g) (hn : x ≠ "__name__" := by decide) (hdb : (x == ("__debug__" : Str)) = false := by decide)
    (he : starEach (e :: es) X.env = (false, eval e X.env) :: starEach es X.env := by rfl) (hpl : (backTo pos (starEach es X.env)).any (·.1) = false := by rfl) :
    RD X C (.Call (.Name x p) (e :: es) [] pos) (tCB r tA) (ddBi k g) := ⟨pe_callTy hc hg hm hv ha.p hn hdb he hpl, s_bd hs ha.s⟩
def bdCopy : Bd := fun ds S => match ds with
  | [d] => dicS S d
  | _ => none
def rCopyK : List V → Hp → VK → Prop := fun xs H Q => ∃ a kvs, xs = [.ref a] ∧ H a = some (.dK kvs) ∧ ∀ p, H p = none → Q (.ref p) (upd H p (.dK kvs))
theorem cr_copyK : CallR X (.type "dict") rCopyK := by
  intro pins s σ H xs us Q I r q
  obtain ⟨a, kvs, ex, hq, q⟩ := q
  subst ex
  obtain ⟨u, eu, rx⟩ := vals1 r
  subst eu
  cases rx
  exact d_copyOf I (.inl hq) fun p s' hp I' => ⟨.ref p, _, I', rfl, q p hp⟩
theorem s_copyK {K : PySem.W.Frag} : CdSem C K rCopyK bdCopy := fun m H xs ds S d Q r sr hf q => by
  unfold bdCopy at hf
  split at hf
  · cases r with
    | cons r1 rr =>
      cases rr
      obtain ⟨a, kvs, e, h1, h2⟩ := rp_dic sr r1 hf
      subst e
      exact ⟨a, kvs, rfl, h1, fun p hp => q p _ hp h2⟩
  · cases hf
def ddCopy (g : A) : DD := ddBi bdCopy g
theorem rd_copy {p : Pos} (hg : Gl X "dict") (hm : X.mg "dict" = none) (ha : RA X C (e :: es) tA g) (he : starEach (e :: es) X.env = (false, eval e X.env) :: starEach es X.env := by rfl) (hpl : (backTo pos (starEach es X.env)).any (·.1) = false := by rfl) :
    RD X C (.Call (.Name "dict" p) (e :: es) [] pos) (tCB rCopyK tA) (ddCopy g) := rd_callTy cr_copyK s_copyK hg hm (by decide +kernel) ha (by decide) (by decide) he hpl
end
theorem unL {A : Around} (r : Room 230 A) : A.units + 3800 < cLine := by have := r.un; omega
end Cb
namespace Cb
open PySem PySem.Spec PyProof.Rows L2

/-! ## pieces, plain -/
mutual
inductive Pc where
  | num (n : Int) | name (x : Str) | fn (a : Int) (x : Str) (b : Pc) | call (a : Int) (f g : Pc) | plus (a : Int) (f g : Pc) | pick (a : Int) (c f g : Pc)
  | rnd (b : Pc) | take (a : Int) (x : Str) (b : Pc) | shut (a : Int) (x : Str) (b : Pc) | kept (a : Int) (fs : List Fr)
inductive Fr where
  | caller (a : Int) (p : Pc) | given (a : Int) (v : Pc) | adder (a : Int) (p : Pc) | added (a : Int) (v : Pc) | picker (a : Int) (p q : Pc) | rnd
end
mutual
def Pc.d : Pc → D
  | .num n => .tup [.str "num", .int n]
  | .name x => .tup [.str "name", .str x]
  | .fn a x b => .tup [.str "fun", .int a, .str x, b.d]
  | .call a f g => .tup [.str "call", .int a, f.d, g.d]
  | .plus a f g => .tup [.str "plus", .int a, f.d, g.d]
  | .pick a c f g => .tup [.str "pick", .int a, c.d, f.d, g.d]
  | .rnd b => .tup [.str "round", b.d]
  | .take a x b => .tup [.str "take", .int a, .str x, b.d]
  | .shut a x b => .tup [.str "shut", .int a, .str x, b.d]
  | .kept a fs => .tup [.str "kept", .int a, .tup (Fr.ds fs)]
def Fr.d : Fr → D
  | .caller a p => .tup [.str "caller", .int a, p.d]
  | .given a p => .tup [.str "given", .int a, p.d]
  | .adder a p => .tup [.str "adder", .int a, p.d]
  | .added a p => .tup [.str "added", .int a, p.d]
  | .picker a p q => .tup [.str "picker", .int a, p.d, q.d]
  | .rnd => .tup [.str "round"]
def Fr.ds : List Fr → List D
  | [] => []
  | f :: fs => f.d :: Fr.ds fs
end
def Pc.isV : Pc → Bool
  | .num _ | .shut .. | .kept .. => true
  | _ => false
def put (x : Str) (v : Pc) : Pc → Pc
  | .num n => .num n
  | .name y => if y = x then v else .name y
  | .fn a y b => if y = x then .fn a y b else .fn a y (put x v b)
  | .call a f g => .call a (put x v f) (put x v g)
  | .plus a f g => .plus a (put x v f) (put x v g)
  | .pick a c f g => .pick a (put x v c) (put x v f) (put x v g)
  | .rnd b => .rnd (put x v b)
  | .take a y b => if y = x then .take a y b else .take a y (put x v b)
  | .shut a y b => .shut a y b
  | .kept a fs => .kept a fs
/-- how deep a piece is, but for what stands in values -/
def cd : Pc → Nat
  | .num _ | .name _ | .shut .. | .kept .. => 1
  | .fn _ _ b => cd b + 1
  | .call _ f g => max (cd f) (cd g) + 1
  | .plus _ f g => max (cd f) (cd g) + 1
  | .pick _ c f g => max (cd c) (max (cd f) (cd g)) + 1
  | .rnd b => cd b + 1
  | .take _ _ b => cd b + 1

theorem ofString_inj {a b : String} : (Str.ofString a = Str.ofString b) ↔ a = b := by
  constructor
  · intro h
    rw [Str.ofString_eq_toList, Str.ofString_eq_toList] at h
    have h1 : (a.toList.map Char.toNat).toArray = (b.toList.map Char.toNat).toArray := by injection h
    have h2 : a.toList.map Char.toNat = b.toList.map Char.toNat := by simpa using h1
    have h3 : a.toList = b.toList := by
      have inj : ∀ (l l' : List Char), l.map Char.toNat = l'.map Char.toNat → l = l' := by
        intro l
        induction l with
        | nil => intro l' h; cases l' with | nil => rfl | cons _ _ => simp at h
        | cons c l ih =>
          intro l' h
          cases l' with
          | nil => simp at h
          | cons c' l' =>
            simp only [List.map_cons, List.cons.injEq] at h
            have : c = c' := Char.ext (UInt32.toNat_inj.mp h.1)
            rw [this, ih l' h.2]
      exact inj _ _ h2
    exact String.ext_iff.mpr h3
  · intro h; rw [h]
theorem ofString_beq {a b : String} : (Str.ofString a == Str.ofString b) = decide (a = b) := by
  rw [Bool.eq_iff_iff, beq_iff_eq, decide_eq_true_iff]
  exact ofString_inj
end Cb
namespace Cb
open PySem PySem.Spec PyProof.Rows L2
/-! ## runs, step by step: equations that fire only where the part ahead is known -/
def varK (o : Option (Option D)) (S : List O) : Option (D × List O) := match o with | some (some d) => some (d, S) | _ => none
theorem varK_1 {S : List O} {d : D} : varK (some (some d)) S = some (d, S) := id rfl
theorem eVar_u {i : Nat} {δ : Sl} {S : List O} : eVar i δ S = varK (δ[i]?) S := id rfl
theorem eC_u {d : D} {δ : Sl} {S : List O} : eC d δ S = some (d, S) := id rfl
theorem aNil_u {δ : Sl} {S : List O} : aNil δ S = some ([], S) := id rfl
def acK2 (d : D) (o : Option (List D × List O)) : Option (List D × List O) := match o with | some (ds, S) => some (d :: ds, S) | none => none
def acK1 (g : A) (δ : Sl) (o : Option (D × List O)) : Option (List D × List O) := match o with | some (d, S) => acK2 d (g δ S) | none => none
theorem acK1_1 {g : A} {δ : Sl} {d : D} {S : List O} : acK1 g δ (some (d, S)) = acK2 d (g δ S) := id rfl
theorem acK2_1 {d : D} {ds : List D} {S : List O} : acK2 d (some (ds, S)) = some (d :: ds, S) := id rfl
theorem aCons_u {f : E} {g : A} {δ : Sl} {S : List O} : aCons f g δ S = acK1 g δ (f δ S) := by unfold aCons acK1; cases f δ S with | none => rfl | some p => (obtain ⟨d, S1⟩ := p; show ((g δ S1).bind _) = acK2 d (g δ S1); cases g δ S1 <;> rfl)
def tupK (o : Option (List D × List O)) : Option (D × List O) := match o with | some (ds, S) => if ds.length ≤ 1000 then some (.tup ds, S) else none | none => none
theorem tupK_1 {ds : List D} {S : List O} : tupK (some (ds, S)) = if ds.length ≤ 1000 then some (.tup ds, S) else none := id rfl
theorem eTup_u {g : A} {δ : Sl} {S : List O} : eTup g δ S = tupK (g δ S) := by unfold eTup; cases g δ S <;> rfl
def ldK (o : Option (List D × List O)) : Option (List D × List O) := match o with | some (ds, S) => if ds.length ≤ 1000 then some (ds, S) else none | none => none
theorem ldK_1 {ds : List D} {S : List O} : ldK (some (ds, S)) = if ds.length ≤ 1000 then some (ds, S) else none := id rfl
theorem lDisp_u {g : A} {δ : Sl} {S : List O} : lDisp g δ S = ldK (g δ S) := by unfold lDisp; cases g δ S <;> rfl
def eLK (o : Option (List D × List O)) : Option (D × List O) := match o with | some (ds, S) => some (.lst ds, S) | none => none
def eLMK (o : Option (List D × List O)) : Option (D × List O) := match o with | some (ds, S) => some (.ref S.length, S ++ [.lst ds]) | none => none
theorem eLK_1 {ds : List D} {S : List O} : eLK (some (ds, S)) = some (.lst ds, S) := id rfl
theorem eLMK_1 {ds : List D} {S : List O} : eLMK (some (ds, S)) = some (.ref S.length, S ++ [.lst ds]) := id rfl
theorem eL_u {g : A} {δ : Sl} {S : List O} : eL g δ S = eLK (g δ S) := by unfold eL; cases g δ S <;> rfl
theorem eLM_u {g : A} {δ : Sl} {S : List O} : eLM g δ S = eLMK (g δ S) := by unfold eLM; cases g δ S <;> rfl
def eDiK (o : Option (List (Key × D) × List O)) : Option (D × List O) := match o with | some (ds, S) => some (.dic ds, S) | none => none
def eDMK (o : Option (List (Key × D) × List O)) : Option (D × List O) := match o with | some (ds, S) => some (.ref S.length, S ++ [.dic ds]) | none => none
theorem eDiK_1 {ds : List (Key × D)} {S : List O} : eDiK (some (ds, S)) = some (.dic ds, S) := id rfl
theorem eDMK_1 {ds : List (Key × D)} {S : List O} : eDMK (some (ds, S)) = some (.ref S.length, S ++ [.dic ds]) := id rfl
theorem eDi_u {g : DD} {δ : Sl} {S : List O} : eDi g δ S = eDiK (g δ S) := by unfold eDi; cases g δ S <;> rfl
theorem eDM_u {g : DD} {δ : Sl} {S : List O} : eDM g δ S = eDMK (g δ S) := by unfold eDM; cases g δ S <;> rfl
def opK3 (S : List O) (o : Option D) : Option (D × List O) := match o with | some d => some (d, S) | none => none
def opK2 (g : Op2) (d : D) (o : Option (D × List O)) : Option (D × List O) := match o with | some (e, S) => opK3 S (g d e S) | none => none
def opK1 (g : Op2) (f : E) (δ : Sl) (o : Option (D × List O)) : Option (D × List O) := match o with | some (d, S) => opK2 g d (f δ S) | none => none
theorem opK1_1 {g : Op2} {f : E} {δ : Sl} {d : D} {S : List O} : opK1 g f δ (some (d, S)) = opK2 g d (f δ S) := id rfl
theorem opK2_1 {g : Op2} {d e : D} {S : List O} : opK2 g d (some (e, S)) = opK3 S (g d e S) := id rfl
theorem opK3_1 {d : D} {S : List O} : opK3 S (some d) = some (d, S) := id rfl
theorem eOp_u {g : Op2} {f1 f2 : E} {δ : Sl} {S : List O} : eOp g f1 f2 δ S = opK1 g f2 δ (f1 δ S) := by unfold eOp opK1; cases f1 δ S with | none => rfl | some p => (obtain ⟨d, S1⟩ := p; show ((f2 δ S1).bind _) = opK2 g d (f2 δ S1); cases f2 δ S1 with | none => rfl | some q => (obtain ⟨e, S2⟩ := q; show ((g d e S2).bind _) = opK3 S2 (g d e S2); cases g d e S2 <;> rfl))
def negK (o : Option (D × List O)) : Option (D × List O) := match o with | some (.int i, S) => some (.int (-i), S) | _ => none
theorem negK_1 {i : Int} {S : List O} : negK (some (.int i, S)) = some (.int (-i), S) := id rfl
theorem eNeg_u {f : E} {δ : Sl} {S : List O} : eNeg f δ S = negK (f δ S) := by unfold eNeg; cases f δ S with | none => rfl | some p => (obtain ⟨d, S1⟩ := p; cases d <;> rfl)
def slK4 (S : List O) (o : Option D) : Option (D × List O) := match o with | some d => some (d, S) | none => none
def slK3 (d : D) (l : Option Int) (o : Option (Option Int × List O)) : Option (D × List O) := match o with | some (h, S) => slK4 S (dSlice d l h S) | none => none
def slK2 (d : D) (hi : Pt) (δ : Sl) (o : Option (Option Int × List O)) : Option (D × List O) := match o with | some (l, S) => slK3 d l (hi δ S) | none => none
def slK1 (lo hi : Pt) (δ : Sl) (o : Option (D × List O)) : Option (D × List O) := match o with | some (d, S) => slK2 d hi δ (lo δ S) | none => none
def ptSK (o : Option (D × List O)) : Option (Option Int × List O) := match o with | some (.int i, S) => some (some i, S) | _ => none
theorem slK1_1 {lo hi : Pt} {δ : Sl} {d : D} {S : List O} : slK1 lo hi δ (some (d, S)) = slK2 d hi δ (lo δ S) := id rfl
theorem slK2_1 {hi : Pt} {δ : Sl} {d : D} {l : Option Int} {S : List O} : slK2 d hi δ (some (l, S)) = slK3 d l (hi δ S) := id rfl
theorem slK3_1 {d : D} {l h : Option Int} {S : List O} : slK3 d l (some (h, S)) = slK4 S (dSlice d l h S) := id rfl
theorem slK4_1 {d : D} {S : List O} : slK4 S (some d) = some (d, S) := id rfl
theorem ptSK_1 {i : Int} {S : List O} : ptSK (some (.int i, S)) = some (some i, S) := id rfl
theorem ptN_u {δ : Sl} {S : List O} : ptN δ S = some (none, S) := id rfl
theorem ptS_u {f : E} {δ : Sl} {S : List O} : ptS f δ S = ptSK (f δ S) := by unfold ptS; cases f δ S with | none => rfl | some p => (obtain ⟨d, S1⟩ := p; cases d <;> rfl)
theorem eSlice_u {f : E} {lo hi : Pt} {δ : Sl} {S : List O} : eSlice f lo hi δ S = slK1 lo hi δ (f δ S) := by unfold eSlice slK1; cases f δ S with | none => rfl | some p => (obtain ⟨d, S1⟩ := p; show ((lo δ S1).bind _) = slK2 d hi δ (lo δ S1); cases lo δ S1 with | none => rfl | some q => (obtain ⟨l, S2⟩ := q; show ((hi δ S2).bind _) = slK3 d l (hi δ S2); cases hi δ S2 with | none => rfl | some r => (obtain ⟨h, S3⟩ := r; show ((dSlice d l h S3).bind _) = slK4 S3 (dSlice d l h S3); cases dSlice d l h S3 <;> rfl)))
def callK (n : Nat) (F : Fn) (o : Option (List D × List O)) : Option (D × List O) := match o with | some (ds, S) => if ds.length = n then F ds S else none | none => none
theorem callK_1 {n : Nat} {F : Fn} {ds : List D} {S : List O} : callK n F (some (ds, S)) = if ds.length = n then F ds S else none := id rfl
theorem eCall_u {n : Nat} {F : Fn} {g : A} {δ : Sl} {S : List O} : eCall n F g δ S = callK n F (g δ S) := by unfold eCall; cases g δ S <;> rfl
def biK (k : Bi) (o : Option (List D × List O)) : Option (D × List O) := match o with | some (ds, S) => opK3 S (k ds S) | none => none
def blK2 (S : List O) (o : Option (List D)) : Option (List D × List O) := match o with | some d => some (d, S) | none => none
def blK (k : Bl) (o : Option (List D × List O)) : Option (List D × List O) := match o with | some (ds, S) => blK2 S (k ds S) | none => none
theorem biK_1 {k : Bi} {ds : List D} {S : List O} : biK k (some (ds, S)) = opK3 S (k ds S) := id rfl
theorem blK_1 {k : Bl} {ds : List D} {S : List O} : blK k (some (ds, S)) = blK2 S (k ds S) := id rfl
theorem blK2_1 {ds : List D} {S : List O} : blK2 S (some ds) = some (ds, S) := id rfl
theorem eBi_u {k : Bi} {g : A} {δ : Sl} {S : List O} : eBi k g δ S = biK k (g δ S) := by unfold eBi; cases g δ S with | none => rfl | some p => (obtain ⟨ds, S1⟩ := p; show ((k ds S1).bind _) = opK3 S1 (k ds S1); cases k ds S1 <;> rfl)
theorem lBi_u {k : Bl} {g : A} {δ : Sl} {S : List O} : lBi k g δ S = blK k (g δ S) := by unfold lBi; cases g δ S with | none => rfl | some p => (obtain ⟨ds, S1⟩ := p; show ((k ds S1).bind _) = blK2 S1 (k ds S1); cases k ds S1 <;> rfl)
def isiK2 (S : List O) (o : Option Bool) : Option (D × List O) := match o with | some b => some (.bl b, S) | none => none
def isiK (T : String) (o : Option (D × List O)) : Option (D × List O) := match o with | some (d, S) => isiK2 S (isD T S d) | none => none
theorem isiK_1 {T : String} {d : D} {S : List O} : isiK T (some (d, S)) = isiK2 S (isD T S d) := id rfl
theorem isiK2_1 {b : Bool} {S : List O} : isiK2 S (some b) = some (.bl b, S) := id rfl
theorem eIsi_u {T : String} {f : E} {δ : Sl} {S : List O} : eIsi T f δ S = isiK T (f δ S) := by unfold eIsi; cases f δ S with | none => rfl | some p => (obtain ⟨d, S1⟩ := p; show ((isD T S1 d).bind _) = isiK2 S1 (isD T S1 d); cases isD T S1 d <;> rfl)
def revK2 (S : List O) (o : Option (List D)) : Option (List D × List O) := match o with | some ds => some (ds.reverse, S) | none => none
def revK (o : Option (D × List O)) : Option (List D × List O) := match o with | some (d, S) => revK2 S (seqL S d) | none => none
theorem revK_1 {d : D} {S : List O} : revK (some (d, S)) = revK2 S (seqL S d) := id rfl
theorem revK2_1 {ds : List D} {S : List O} : revK2 S (some ds) = some (ds.reverse, S) := id rfl
theorem lRev_u {f : E} {δ : Sl} {S : List O} : lRev f δ S = revK (f δ S) := by unfold lRev; cases f δ S with | none => rfl | some p => (obtain ⟨d, S1⟩ := p; show ((seqL S1 d).bind _) = revK2 S1 (seqL S1 d); cases seqL S1 d <;> rfl)
def andEK (g : E) (δ : Sl) (o : Option (D × List O)) : Option (D × List O) := match o with | some (.bl true, S) => g δ S | some (.bl false, S) => some (.bl false, S) | _ => none
def orEK (g : E) (δ : Sl) (o : Option (D × List O)) : Option (D × List O) := match o with | some (.bl true, S) => some (.bl true, S) | some (.bl false, S) => g δ S | _ => none
def notEK (o : Option (D × List O)) : Option (D × List O) := match o with | some (.bl b, S) => some (.bl (!b), S) | _ => none
def orSK (g : E) (δ : Sl) (o : Option (D × List O)) : Option (D × List O) := match o with | some (.str x, S) => if x.length ≤ sizeLine then (if (x.length : Int) != 0 then some (.str x, S) else g δ S) else none | _ => none
def ifEK (g h : E) (δ : Sl) (o : Option (Bool × List O)) : Option (D × List O) := match o with | some (true, S) => g δ S | some (false, S) => h δ S | none => none
def tofK (o : Option (D × List O)) : Option (Bool × List O) := match o with | some (.bl b, S) => some (b, S) | _ => none
theorem andEK_1 {g : E} {δ : Sl} {S : List O} : andEK g δ (some (.bl true, S)) = g δ S := id rfl
theorem andEK_2 {g : E} {δ : Sl} {S : List O} : andEK g δ (some (.bl false, S)) = some (.bl false, S) := id rfl
theorem orEK_1 {g : E} {δ : Sl} {S : List O} : orEK g δ (some (.bl true, S)) = some (.bl true, S) := id rfl
theorem orEK_2 {g : E} {δ : Sl} {S : List O} : orEK g δ (some (.bl false, S)) = g δ S := id rfl
theorem notEK_1 {b : Bool} {S : List O} : notEK (some (.bl b, S)) = some (.bl (!b), S) := id rfl
theorem orSK_1 {g : E} {δ : Sl} {x : Str} {S : List O} : orSK g δ (some (.str x, S)) = if x.length ≤ sizeLine then (if (x.length : Int) != 0 then some (.str x, S) else g δ S) else none := id rfl
theorem ifEK_1 {g h : E} {δ : Sl} {S : List O} : ifEK g h δ (some (true, S)) = g δ S := id rfl
theorem ifEK_2 {g h : E} {δ : Sl} {S : List O} : ifEK g h δ (some (false, S)) = h δ S := id rfl
theorem tofK_1 {b : Bool} {S : List O} : tofK (some (.bl b, S)) = some (b, S) := id rfl
theorem eAnd_u {f g : E} {δ : Sl} {S : List O} : eAnd f g δ S = andEK g δ (f δ S) := by unfold eAnd; cases f δ S with | none => rfl | some p => (obtain ⟨d, S1⟩ := p; cases d with | bl b => cases b <;> rfl | _ => rfl)
theorem eOr_u {f g : E} {δ : Sl} {S : List O} : eOr f g δ S = orEK g δ (f δ S) := by unfold eOr; cases f δ S with | none => rfl | some p => (obtain ⟨d, S1⟩ := p; cases d with | bl b => cases b <;> rfl | _ => rfl)
theorem eNot_u {f : E} {δ : Sl} {S : List O} : eNot f δ S = notEK (f δ S) := by unfold eNot; cases f δ S with | none => rfl | some p => (obtain ⟨d, S1⟩ := p; cases d <;> rfl)
theorem eOrS_u {f g : E} {δ : Sl} {S : List O} : eOrS f g δ S = orSK g δ (f δ S) := by unfold eOrS; cases f δ S with | none => rfl | some p => (obtain ⟨d, S1⟩ := p; cases d <;> rfl)
theorem eIf_u {f : T} {g h : E} {δ : Sl} {S : List O} : eIf f g h δ S = ifEK g h δ (f δ S) := by unfold eIf; cases f δ S with | none => rfl | some p => (obtain ⟨b, S1⟩ := p; cases b <;> rfl)
theorem tOf_u {f : E} {δ : Sl} {S : List O} : tOf f δ S = tofK (f δ S) := by unfold tOf; cases f δ S with | none => rfl | some p => (obtain ⟨d, S1⟩ := p; cases d <;> rfl)
def chK5 (S : List O) (o : Option D) : Option (D × List O) := opK3 S o
def chK4 (g : Op2) (d : D) (o : Option (D × List O)) : Option (D × List O) := opK2 g d o
def chK3 (g : Op2) (f : E) (d : D) (δ : Sl) (S : List O) (o : Option D) : Option (D × List O) := match o with | some (.bl true) => opK2 g d (f δ S) | some (.bl false) => some (.bl false, S) | _ => none
def chK2 (g1 g2 : Op2) (f3 : E) (d1 : D) (δ : Sl) (o : Option (D × List O)) : Option (D × List O) := match o with | some (d2, S) => chK3 g2 f3 d2 δ S (g1 d1 d2 S) | none => none
def chK1 (g1 g2 : Op2) (f2 f3 : E) (δ : Sl) (o : Option (D × List O)) : Option (D × List O) := match o with | some (d1, S) => chK2 g1 g2 f3 d1 δ (f2 δ S) | none => none
theorem chK1_1 {g1 g2 : Op2} {f2 f3 : E} {δ : Sl} {d : D} {S : List O} : chK1 g1 g2 f2 f3 δ (some (d, S)) = chK2 g1 g2 f3 d δ (f2 δ S) := id rfl
theorem chK2_1 {g1 g2 : Op2} {f3 : E} {δ : Sl} {d1 d2 : D} {S : List O} : chK2 g1 g2 f3 d1 δ (some (d2, S)) = chK3 g2 f3 d2 δ S (g1 d1 d2 S) := id rfl
theorem chK3_1 {g : Op2} {f : E} {δ : Sl} {d : D} {S : List O} : chK3 g f d δ S (some (.bl true)) = opK2 g d (f δ S) := id rfl
theorem chK3_2 {g : Op2} {f : E} {δ : Sl} {d : D} {S : List O} : chK3 g f d δ S (some (.bl false)) = some (.bl false, S) := id rfl
theorem eChain_u {g1 g2 : Op2} {f1 f2 f3 : E} {δ : Sl} {S : List O} : eChain g1 g2 f1 f2 f3 δ S = chK1 g1 g2 f2 f3 δ (f1 δ S) := by
  unfold eChain chK1
  cases f1 δ S with
  | none => rfl
  | some p =>
    obtain ⟨d, S1⟩ := p
    show ((f2 δ S1).bind _) = chK2 g1 g2 f3 d δ (f2 δ S1)
    cases f2 δ S1 with
    | none => rfl
    | some q =>
      obtain ⟨e, S2⟩ := q
      show ((g1 d e S2).bind _) = chK3 g2 f3 e δ S2 (g1 d e S2)
      cases g1 d e S2 with
      | none => rfl
      | some r =>
        cases r with
        | bl b =>
          cases b with
          | false => rfl
          | true =>
            show ((f3 δ S2).bind _) = opK2 g2 e (f3 δ S2)
            cases f3 δ S2 with
            | none => rfl
            | some t =>
              obtain ⟨z, S3⟩ := t
              show ((g2 e z S3).bind _) = opK3 S3 (g2 e z S3)
              cases g2 e z S3 <;> rfl
        | _ => rfl
def tandK (g : T) (δ : Sl) (o : Option (Bool × List O)) : Option (Bool × List O) := match o with | some (true, S) => g δ S | some (false, S) => some (false, S) | none => none
def torK (g : T) (δ : Sl) (o : Option (Bool × List O)) : Option (Bool × List O) := match o with | some (true, S) => some (true, S) | some (false, S) => g δ S | none => none
def tnotK (o : Option (Bool × List O)) : Option (Bool × List O) := match o with | some (b, S) => some (!b, S) | none => none
theorem tandK_1 {g : T} {δ : Sl} {S : List O} : tandK g δ (some (true, S)) = g δ S := id rfl
theorem tandK_2 {g : T} {δ : Sl} {S : List O} : tandK g δ (some (false, S)) = some (false, S) := id rfl
theorem torK_1 {g : T} {δ : Sl} {S : List O} : torK g δ (some (true, S)) = some (true, S) := id rfl
theorem torK_2 {g : T} {δ : Sl} {S : List O} : torK g δ (some (false, S)) = g δ S := id rfl
theorem tnotK_1 {b : Bool} {S : List O} : tnotK (some (b, S)) = some (!b, S) := id rfl
theorem tTrue_u {δ : Sl} {S : List O} : tTrue δ S = some (true, S) := id rfl
theorem tfAnd_u {f g : T} {δ : Sl} {S : List O} : tfAnd f g δ S = tandK g δ (f δ S) := by unfold tfAnd; cases f δ S with | none => rfl | some p => (obtain ⟨b, S1⟩ := p; cases b <;> rfl)
theorem tfOr_u {f g : T} {δ : Sl} {S : List O} : tfOr f g δ S = torK g δ (f δ S) := by unfold tfOr; cases f δ S with | none => rfl | some p => (obtain ⟨b, S1⟩ := p; cases b <;> rfl)
theorem tfNot_u {f : T} {δ : Sl} {S : List O} : tfNot f δ S = tnotK (f δ S) := by unfold tfNot; cases f δ S <;> rfl
def lcK1 (gd : G) (c : T) (e : E) (δ : Sl) (o : Option (List D × List O)) : Option (List D × List O) := match o with | some (ds, S) => if ds.length ≤ 10000000 then lcD gd c e δ ds S else none | none => none
def lcK5 (d : D) (o : Option (List D × List O)) : Option (List D × List O) := match o with | some (ds, S) => some (d :: ds, S) | none => none
def lcK4 (gd : G) (c : T) (e : E) (δ : Sl) (ds : List D) (o : Option (D × List O)) : Option (List D × List O) := match o with | some (d, S) => lcK5 d (lcD gd c e δ ds S) | none => none
def lcK3 (gd : G) (c : T) (e : E) (δ δ1 : Sl) (ds : List D) (o : Option (Bool × List O)) : Option (List D × List O) := match o with | some (true, S) => lcK4 gd c e δ ds (e δ1 S) | some (false, S) => lcD gd c e δ ds S | none => none
def lcK2 (gd : G) (c : T) (e : E) (δ : Sl) (ds : List D) (S : List O) (o : Option Sl) : Option (List D × List O) := match o with | some δ1 => lcK3 gd c e δ δ1 ds (c δ1 S) | none => none
theorem lcK1_1 {gd : G} {c : T} {e : E} {δ : Sl} {ds : List D} {S : List O} : lcK1 gd c e δ (some (ds, S)) = if ds.length ≤ 10000000 then lcD gd c e δ ds S else none := id rfl
theorem lcK2_1 {gd : G} {c : T} {e : E} {δ δ1 : Sl} {ds : List D} {S : List O} : lcK2 gd c e δ ds S (some δ1) = lcK3 gd c e δ δ1 ds (c δ1 S) := id rfl
theorem lcK3_1 {gd : G} {c : T} {e : E} {δ δ1 : Sl} {ds : List D} {S : List O} : lcK3 gd c e δ δ1 ds (some (true, S)) = lcK4 gd c e δ ds (e δ1 S) := id rfl
theorem lcK3_2 {gd : G} {c : T} {e : E} {δ δ1 : Sl} {ds : List D} {S : List O} : lcK3 gd c e δ δ1 ds (some (false, S)) = lcD gd c e δ ds S := id rfl
theorem lcK4_1 {gd : G} {c : T} {e : E} {δ : Sl} {d : D} {ds : List D} {S : List O} : lcK4 gd c e δ ds (some (d, S)) = lcK5 d (lcD gd c e δ ds S) := id rfl
theorem lcK5_1 {d : D} {ds : List D} {S : List O} : lcK5 d (some (ds, S)) = some (d :: ds, S) := id rfl
theorem lcD_n {gd : G} {c : T} {e : E} {δ : Sl} {S : List O} : lcD gd c e δ [] S = some ([], S) := id rfl
theorem lcD_c {gd : G} {c : T} {e : E} {δ : Sl} {d : D} {ds : List D} {S : List O} : lcD gd c e δ (d :: ds) S = lcK2 gd c e δ ds S (gd d δ) := by
  show ((gd d δ).bind _) = lcK2 gd c e δ ds S (gd d δ)
  cases gd d δ with
  | none => rfl
  | some δ1 =>
    show ((c δ1 S).bind _) = lcK3 gd c e δ δ1 ds (c δ1 S)
    cases c δ1 S with
    | none => rfl
    | some p =>
      obtain ⟨b, S1⟩ := p
      cases b with
      | false => rfl
      | true =>
        show ((e δ1 S1).bind _) = lcK4 gd c e δ ds (e δ1 S1)
        cases e δ1 S1 with
        | none => rfl
        | some q =>
          obtain ⟨d2, S2⟩ := q
          show ((lcD gd c e δ ds S2).bind _) = lcK5 d2 (lcD gd c e δ ds S2)
          cases lcD gd c e δ ds S2 <;> rfl
theorem aLc_u {it : A} {gd : G} {c : T} {e : E} {vs : List Nat} {δ : Sl} {S : List O} : aLc it gd c e vs δ S = lcK1 gd c e (wipeD δ vs) (it δ S) := by unfold aLc; cases it δ S <;> rfl
theorem wipeD_n {δ : Sl} : wipeD δ [] = δ := id rfl
theorem wipeD_c {δ : Sl} {v : Nat} {vs : List Nat} : wipeD δ (v :: vs) = (wipeD δ vs).set v none := id rfl
theorem gdName_u {i : Nat} {d : D} {δ : Sl} : gdName i d δ = some (δ.set i (some d)) := id rfl
def gsK (gs : Gs) (ds : List D) (o : Option Sl) : Option Sl := match o with | some δ => gs ds δ | none => none
theorem gsK_1 {gs : Gs} {ds : List D} {δ : Sl} : gsK gs ds (some δ) = gs ds δ := id rfl
theorem gsNil_u {δ : Sl} : gsNil [] δ = some δ := id rfl
theorem gdTup_u {n : Nat} {gs : Gs} {ds : List D} {δ : Sl} : gdTup n gs (.tup ds) δ = if ds.length = n then gs ds δ else none := id rfl
theorem gsCons_u {g : G} {gs : Gs} {d : D} {ds : List D} {δ : Sl} : gsCons g gs (d :: ds) δ = gsK gs ds (g d δ) := by show ((g d δ).bind _) = gsK gs ds (g d δ); cases g d δ <;> rfl
def iseqK2 (S : List O) (o : Option (List D)) : Option (List D × List O) := match o with | some ds => some (ds, S) | none => none
def iseqK (o : Option (D × List O)) : Option (List D × List O) := match o with | some (d, S) => iseqK2 S (seqP d) | none => none
def itupK (o : Option (D × List O)) : Option (List D × List O) := match o with | some (.tup ds, S) => some (ds, S) | _ => none
def istrK (o : Option (D × List O)) : Option (List D × List O) := match o with | some (.str z, S) => some (z.cps.toList.map fun c => .str ⟨#[c]⟩, S) | _ => none
def irng1K (o : Option (List D × List O)) : Option (List D × List O) := match o with | some ([.int j], S) => if -(2 ^ 62) ≤ j ∧ j < 2 ^ 62 then some (rangeD 0 j, S) else none | _ => none
def irng2K (o : Option (List D × List O)) : Option (List D × List O) := match o with | some ([.int i, .int j], S) => if -(2 ^ 62) ≤ i ∧ i < 2 ^ 62 ∧ -(2 ^ 62) ≤ j ∧ j < 2 ^ 62 then some (rangeD i j, S) else none | _ => none
theorem iseqK_1 {d : D} {S : List O} : iseqK (some (d, S)) = iseqK2 S (seqP d) := id rfl
theorem iseqK2_1 {ds : List D} {S : List O} : iseqK2 S (some ds) = some (ds, S) := id rfl
theorem itupK_1 {ds : List D} {S : List O} : itupK (some (.tup ds, S)) = some (ds, S) := id rfl
theorem istrK_1 {z : Str} {S : List O} : istrK (some (.str z, S)) = some (z.cps.toList.map fun c => .str ⟨#[c]⟩, S) := id rfl
theorem irng1K_1 {j : Int} {S : List O} : irng1K (some ([.int j], S)) = if -(2 ^ 62) ≤ j ∧ j < 2 ^ 62 then some (rangeD 0 j, S) else none := id rfl
theorem irng2K_1 {i j : Int} {S : List O} : irng2K (some ([.int i, .int j], S)) = if -(2 ^ 62) ≤ i ∧ i < 2 ^ 62 ∧ -(2 ^ 62) ≤ j ∧ j < 2 ^ 62 then some (rangeD i j, S) else none := id rfl
theorem seqP_1 {xs : List D} : seqP (.lst xs) = some xs := id rfl
theorem seqP_2 {ns : List Int} : seqP (.scr ns) = some (ns.map .int) := id rfl
theorem iSeq_u {f : E} {δ : Sl} {S : List O} : iSeq f δ S = iseqK (f δ S) := by unfold iSeq; cases f δ S with | none => rfl | some p => (obtain ⟨d, S1⟩ := p; show ((seqP d).bind _) = iseqK2 S1 (seqP d); cases seqP d <;> rfl)
theorem iTupD_u {f : E} {δ : Sl} {S : List O} : iTupD f δ S = itupK (f δ S) := by unfold iTupD; cases f δ S with | none => rfl | some p => (obtain ⟨d, S1⟩ := p; cases d <;> rfl)
theorem iStrD_u {f : E} {δ : Sl} {S : List O} : iStrD f δ S = istrK (f δ S) := by unfold iStrD; cases f δ S with | none => rfl | some p => (obtain ⟨d, S1⟩ := p; cases d <;> rfl)
theorem iRange1_u {g : A} {δ : Sl} {S : List O} : iRange1 g δ S = irng1K (g δ S) := by unfold iRange1 irng1K; cases g δ S with | none => rfl | some p => (obtain ⟨ds, S1⟩ := p; cases ds with | nil => rfl | cons d ds => (cases ds with | nil => (cases d <;> rfl) | cons e es => (cases d <;> rfl)))
theorem iRange2_u {g : A} {δ : Sl} {S : List O} : iRange2 g δ S = irng2K (g δ S) := by unfold iRange2 irng2K; cases g δ S with | none => rfl | some p => (obtain ⟨ds, S1⟩ := p; match ds with | [] => rfl | [d] => (cases d <;> rfl) | d :: e :: f :: r => (cases d <;> cases e <;> rfl) | [d, e] => (cases d <;> cases e <;> rfl))
def m1K2 (k : D → D → List O → Option (D × List O)) (d : D) (o : Option (D × List O)) : Option (D × List O) := match o with | some (e, S) => k d e S | none => none
def m1K (k : D → D → List O → Option (D × List O)) (f : E) (δ : Sl) (o : Option (D × List O)) : Option (D × List O) := match o with | some (d, S) => if isLst S d = true then m1K2 k d (f δ S) else none | none => none
def m0K (k : D → List O → Option (D × List O)) (o : Option (D × List O)) : Option (D × List O) := match o with | some (d, S) => if isLst S d = true then k d S else none | none => none
def s1K2 (k : Op2) (d : D) (o : Option (D × List O)) : Option (D × List O) := opK2 k d o
def s1K (k : Op2) (f : E) (δ : Sl) (o : Option (D × List O)) : Option (D × List O) := match o with | some (.str x, S) => opK2 k (.str x) (f δ S) | _ => none
theorem m1K_1 {k : D → D → List O → Option (D × List O)} {f : E} {δ : Sl} {d : D} {S : List O} : m1K k f δ (some (d, S)) = if isLst S d = true then m1K2 k d (f δ S) else none := id rfl
theorem m1K2_1 {k : D → D → List O → Option (D × List O)} {d e : D} {S : List O} : m1K2 k d (some (e, S)) = k d e S := id rfl
theorem m0K_1 {k : D → List O → Option (D × List O)} {d : D} {S : List O} : m0K k (some (d, S)) = if isLst S d = true then k d S else none := id rfl
theorem s1K_1 {k : Op2} {f : E} {δ : Sl} {x : Str} {S : List O} : s1K k f δ (some (.str x, S)) = opK2 k (.str x) (f δ S) := id rfl
theorem eMeth1_u {k : D → D → List O → Option (D × List O)} {f g : E} {δ : Sl} {S : List O} : eMeth1 k f g δ S = m1K k g δ (f δ S) := by unfold eMeth1 m1K; cases f δ S with | none => rfl | some p => (obtain ⟨d, S1⟩ := p; show (if isLst S1 d = true then _ else _) = (if isLst S1 d = true then _ else _); split <;> first | rfl | (show ((g δ S1).bind _) = m1K2 k d (g δ S1); cases g δ S1 <;> rfl))
theorem eMeth0_u {k : D → List O → Option (D × List O)} {f : E} {δ : Sl} {S : List O} : eMeth0 k f δ S = m0K k (f δ S) := by unfold eMeth0; cases f δ S <;> rfl
theorem eS1_u {k : Op2} {f g : E} {δ : Sl} {S : List O} : eS1 k f g δ S = s1K k g δ (f δ S) := by unfold eS1; cases f δ S with | none => rfl | some p => (obtain ⟨d, S1⟩ := p; cases d with | str x => (show ((g δ S1).bind _) = opK2 k (.str x) (g δ S1); cases g δ S1 with | none => rfl | some q => (obtain ⟨e, S2⟩ := q; show ((k (.str x) e S2).bind _) = opK3 S2 (k (.str x) e S2); cases k (.str x) e S2 <;> rfl)) | _ => rfl)
def setK (i : Nat) (δ : Sl) (o : Option (D × List O)) : Option Out := match o with | some (d, S) => some (.nx (δ.set i (some d)) S) | none => none
def asgK2 (S : List O) (o : Option Sl) : Option Out := match o with | some δ => some (.nx δ S) | none => none
def asgK (g : G) (δ : Sl) (o : Option (D × List O)) : Option Out := match o with | some (d, S) => asgK2 S (g d δ) | none => none
def retK (o : Option (D × List O)) : Option Out := match o with | some (d, S) => some (.rt d S) | none => none
def expK (δ : Sl) (o : Option (D × List O)) : Option Out := match o with | some (_, S) => some (.nx δ S) | none => none
def seqK (y : B) (o : Option Out) : Option Out := match o with | some (.nx δ S) => y δ S | o => o
def ifK (x y : B) (δ : Sl) (o : Option (Bool × List O)) : Option Out := match o with | some (true, S) => x δ S | some (false, S) => y δ S | none => none
def forK (gd : G) (b : B) (δ : Sl) (o : Option (List D × List O)) : Option Out := match o with | some (ds, S) => forD gd b ds δ S | none => none
def forK3 (gd : G) (b : B) (ds : List D) (o : Option Out) : Option Out := match o with | some (.nx δ S) => forD gd b ds δ S | some (.ct δ S) => forD gd b ds δ S | some (.bk δ S) => some (.nx δ S) | some (.rt d S) => some (.rt d S) | none => none
def forK2 (gd : G) (b : B) (ds : List D) (S : List O) (o : Option Sl) : Option Out := match o with | some δ => forK3 gd b ds (b δ S) | none => none
def fnK (o : Option Out) : Option (D × List O) := match o with | some (.rt d S) => some (d, S) | some (.nx _ S) => some (.non, S) | _ => none
def gcK (n : Nat) (o : Option (D × List O)) : Option (D × List O) := match o with | some p => gcF n p | none => none
def stK2 (δ : Sl) (o : Option (List O)) : Option Out := match o with | some S => some (.nx δ S) | none => none
def stF (d : D) (k : Int) (o : O) : Option O := match o with | .lst xs => (ixN xs.length k).bind fun j => some (.lst (xs.set j d)) | _ => none
def stK1 (d o : D) (δ : Sl) (p : Option (D × List O)) : Option Out := match p with | some (.int k, S) => stK2 δ (setO S o (stF d k)) | _ => none
def stK0 (fi : E) (d : D) (δ : Sl) (p : Option (D × List O)) : Option Out := match p with | some (o, S) => stK1 d o δ (fi δ S) | none => none
def stK (fo fi : E) (δ : Sl) (p : Option (D × List O)) : Option Out := match p with | some (d, S) => stK0 fi d δ (fo δ S) | none => none
theorem setK_1 {i : Nat} {δ : Sl} {d : D} {S : List O} : setK i δ (some (d, S)) = some (.nx (δ.set i (some d)) S) := id rfl
theorem asgK_1 {g : G} {δ : Sl} {d : D} {S : List O} : asgK g δ (some (d, S)) = asgK2 S (g d δ) := id rfl
theorem asgK2_1 {δ : Sl} {S : List O} : asgK2 S (some δ) = some (.nx δ S) := id rfl
theorem retK_1 {d : D} {S : List O} : retK (some (d, S)) = some (.rt d S) := id rfl
theorem expK_1 {δ : Sl} {d : D} {S : List O} : expK δ (some (d, S)) = some (.nx δ S) := id rfl
theorem seqK_1 {y : B} {δ : Sl} {S : List O} : seqK y (some (.nx δ S)) = y δ S := id rfl
theorem seqK_2 {y : B} {d : D} {S : List O} : seqK y (some (.rt d S)) = some (.rt d S) := id rfl
theorem seqK_3 {y : B} {δ : Sl} {S : List O} : seqK y (some (.bk δ S)) = some (.bk δ S) := id rfl
theorem ifK_1 {x y : B} {δ : Sl} {S : List O} : ifK x y δ (some (true, S)) = x δ S := id rfl
theorem ifK_2 {x y : B} {δ : Sl} {S : List O} : ifK x y δ (some (false, S)) = y δ S := id rfl
theorem forK_1 {gd : G} {b : B} {δ : Sl} {ds : List D} {S : List O} : forK gd b δ (some (ds, S)) = forD gd b ds δ S := id rfl
theorem forD_n {gd : G} {b : B} {δ : Sl} {S : List O} : forD gd b [] δ S = some (.nx δ S) := id rfl
theorem forK2_1 {gd : G} {b : B} {ds : List D} {δ : Sl} {S : List O} : forK2 gd b ds S (some δ) = forK3 gd b ds (b δ S) := id rfl
theorem forK3_1 {gd : G} {b : B} {ds : List D} {δ : Sl} {S : List O} : forK3 gd b ds (some (.nx δ S)) = forD gd b ds δ S := id rfl
theorem forK3_2 {gd : G} {b : B} {ds : List D} {δ : Sl} {S : List O} : forK3 gd b ds (some (.bk δ S)) = some (.nx δ S) := id rfl
theorem forK3_3 {gd : G} {b : B} {ds : List D} {d : D} {S : List O} : forK3 gd b ds (some (.rt d S)) = some (.rt d S) := id rfl
theorem fnK_1 {d : D} {S : List O} : fnK (some (.rt d S)) = some (d, S) := id rfl
theorem fnK_2 {δ : Sl} {S : List O} : fnK (some (.nx δ S)) = some (.non, S) := id rfl
theorem gcK_1 {n : Nat} {p : D × List O} : gcK n (some p) = gcF n p := id rfl
theorem sNext_u {δ : Sl} {S : List O} : sNext δ S = some (.nx δ S) := id rfl
theorem sBrk_u {δ : Sl} {S : List O} : sBrk δ S = some (.bk δ S) := id rfl
theorem stK_1 {fo fi : E} {δ : Sl} {d : D} {S : List O} : stK fo fi δ (some (d, S)) = stK0 fi d δ (fo δ S) := id rfl
theorem stK0_1 {fi : E} {δ : Sl} {d o : D} {S : List O} : stK0 fi d δ (some (o, S)) = stK1 d o δ (fi δ S) := id rfl
theorem stK1_1 {δ : Sl} {d o : D} {k : Int} {S : List O} : stK1 d o δ (some (.int k, S)) = stK2 δ (setO S o (stF d k)) := id rfl
theorem stK2_1 {δ : Sl} {S : List O} : stK2 δ (some S) = some (.nx δ S) := id rfl
theorem sSet_u {i : Nat} {f : E} {δ : Sl} {S : List O} : sSet i f δ S = setK i δ (f δ S) := by unfold sSet; cases f δ S <;> rfl
theorem sAsg_u {f : E} {g : G} {δ : Sl} {S : List O} : sAsg f g δ S = asgK g δ (f δ S) := by unfold sAsg; cases f δ S with | none => rfl | some p => (obtain ⟨d, S1⟩ := p; show ((g d δ).bind _) = asgK2 S1 (g d δ); cases g d δ <;> rfl)
theorem sRet_u {f : E} {δ : Sl} {S : List O} : sRet f δ S = retK (f δ S) := by unfold sRet; cases f δ S <;> rfl
theorem sExp_u {f : E} {δ : Sl} {S : List O} : sExp f δ S = expK δ (f δ S) := by unfold sExp; cases f δ S <;> rfl
theorem sSeq_u {x y : B} {δ : Sl} {S : List O} : sSeq x y δ S = seqK y (x δ S) := by unfold sSeq; cases x δ S with | none => rfl | some o => (cases o <;> rfl)
theorem sIf_u {c : T} {x y : B} {δ : Sl} {S : List O} : sIf c x y δ S = ifK x y δ (c δ S) := by unfold sIf; cases c δ S with | none => rfl | some p => (obtain ⟨b, S1⟩ := p; cases b <;> rfl)
theorem sFor_u {it : A} {gd : G} {b : B} {δ : Sl} {S : List O} : sFor it gd b δ S = forK gd b δ (it δ S) := by unfold sFor; cases it δ S <;> rfl
theorem forD_c {gd : G} {b : B} {d : D} {ds : List D} {δ : Sl} {S : List O} : forD gd b (d :: ds) δ S = forK2 gd b ds S (gd d δ) := by show ((gd d δ).bind _) = forK2 gd b ds S (gd d δ); cases gd d δ with | none => rfl | some δ1 => (show ((b δ1 S).bind _) = forK3 gd b ds (b δ1 S); cases b δ1 S with | none => rfl | some o => (cases o <;> rfl))
theorem fnD_u {n : Nat} {b : B} {ds : List D} {S : List O} : fnD n b ds S = fnK (b (ds.map some ++ List.replicate (n - ds.length) none) S) := by unfold fnD fnK; cases b (ds.map some ++ List.replicate (n - ds.length) none) S with | none => rfl | some o => (cases o <;> rfl)
theorem gcFn_u {F : Fn} {ds : List D} {S : List O} : gcFn F ds S = gcK S.length (F ds S) := by unfold gcFn; cases F ds S <;> rfl
theorem sSetIx_u {fe fo fi : E} {δ : Sl} {S : List O} : sSetIx fe fo fi δ S = stK fo fi δ (fe δ S) := by
  unfold sSetIx stK
  cases fe δ S with
  | none => rfl
  | some p =>
    obtain ⟨d, S1⟩ := p
    show ((fo δ S1).bind _) = stK0 fi d δ (fo δ S1)
    cases fo δ S1 with
    | none => rfl
    | some q =>
      obtain ⟨o, S2⟩ := q
      show ((fi δ S2).bind _) = stK1 d o δ (fi δ S2)
      cases fi δ S2 with
      | none => rfl
      | some r =>
        obtain ⟨i, S3⟩ := r
        cases i with
        | int k =>
          show ((setO S3 o (stF d k)).bind _) = stK2 δ (setO S3 o (stF d k))
          cases setO S3 o (stF d k) <;> rfl
        | _ => rfl
theorem dAdd_i {i j : Int} {S : List O} : dAdd (.int i) (.int j) S = some (.int (i + j)) := id rfl
theorem dAdd_s {x y : Str} {S : List O} : dAdd (.str x) (.str y) S = if x.length + y.length ≤ sizeLine then some (.str (x ++ y)) else none := id rfl
theorem dAdd_t {a b : List D} {S : List O} : dAdd (.tup a) (.tup b) S = if a.length + b.length ≤ sizeLine then some (.tup (a ++ b)) else none := id rfl
theorem dAdd_l {a b : List D} {S : List O} : dAdd (.lst a) (.lst b) S = if a.length + b.length ≤ sizeLine then some (.lst (a ++ b)) else none := id rfl
theorem dSub_i {i j : Int} {S : List O} : dInt gSub (.int i) (.int j) S = some (.int (i - j)) := id rfl
theorem dCmp_i {g : Int → Int → Bool} {i j : Int} {S : List O} : dCmp g (.int i) (.int j) S = some (.bl (g i j)) := id rfl
theorem dEq_s {L : Nat} {x y : Str} {S : List O} : dEq L (.str x) (.str y) S = some (.bl (decide (x = y))) := id rfl
theorem dEq_i {L : Nat} {x y : Int} {S : List O} : dEq L (.int x) (.int y) S = some (.bl (decide (x = y))) := id rfl
theorem dEq_b {L : Nat} {x y : Bool} {S : List O} : dEq L (.bl x) (.bl y) S = some (.bl (decide (x = y))) := id rfl
theorem dNe_s {L : Nat} {x y : Str} {S : List O} : dNe L (.str x) (.str y) S = some (.bl (!decide (x = y))) := id rfl
theorem dNe_i {L : Nat} {x y : Int} {S : List O} : dNe L (.int x) (.int y) S = some (.bl (!decide (x = y))) := id rfl
theorem dNe_b {L : Nat} {x y : Bool} {S : List O} : dNe L (.bl x) (.bl y) S = some (.bl (!decide (x = y))) := id rfl
theorem dIx_t {ds : List D} {i : Int} {S : List O} : dIx (.tup ds) (.int i) S = atI ds i := id rfl
theorem dIx_l {ds : List D} {i : Int} {S : List O} : dIx (.lst ds) (.int i) S = atI ds i := id rfl
theorem dIx_c {ns : List Int} {i : Int} {S : List O} : dIx (.scr ns) (.int i) S = atI (ns.map D.int) i := id rfl
theorem dSlice_t {ds : List D} {l h : Option Int} {S : List O} : dSlice (.tup ds) l h S = some (.tup (cutD ds l h)) := id rfl
theorem dSlice_l {ds : List D} {l h : Option Int} {S : List O} : dSlice (.lst ds) l h S = some (.lst (cutD ds l h)) := id rfl
theorem dSlice_c {ns : List Int} {l h : Option Int} {S : List O} : dSlice (.scr ns) l h S = some (.lst (cutD (ns.map D.int) l h)) := id rfl
theorem dSlice_s {z : Str} {l h : Option Int} {S : List O} : dSlice (.str z) l h S = if z.length ≤ sizeLine then some (.str (cutS z l h)) else none := id rfl
theorem bLen_t {ds : List D} {S : List O} : bLen [.tup ds] S = some (.int ds.length) := id rfl
theorem bLen_l {ds : List D} {S : List O} : bLen [.lst ds] S = some (.int ds.length) := id rfl
theorem bLen_s {z : Str} {S : List O} : bLen [.str z] S = if z.length ≤ sizeLine then some (.int z.length) else none := id rfl
theorem bTup_t {ds : List D} {S : List O} : bTup [.tup ds] S = some (.tup ds) := id rfl
theorem bTup_l {ds : List D} {S : List O} : bTup [.lst ds] S = some (.tup ds) := id rfl
theorem blList_t {ds : List D} {S : List O} : blList [.tup ds] S = some ds := id rfl
theorem blList_l {ds : List D} {S : List O} : blList [.lst ds] S = some ds := id rfl
theorem bInt_i {i : Int} {S : List O} : bInt [.int i] S = some (.int i) := id rfl
theorem bInt_t {S : List O} : bInt [.bl true] S = some (.int 1) := id rfl
theorem bInt_f {S : List O} : bInt [.bl false] S = some (.int 0) := id rfl
theorem bMin_i {i j : Int} {S : List O} : bMin [.int i, .int j] S = some (.int (if j < i then j else i)) := id rfl
theorem dIsN_1 {d : D} {S : List O} : dIsN false d .non S = some (.bl (isNon d)) := id rfl
theorem dIsN_2 {d : D} {S : List O} : dIsN true d .non S = some (.bl (!isNon d)) := id rfl
theorem seqL_l {S : List O} {ds : List D} : seqL S (.lst ds) = some ds := id rfl
theorem seqL_c {S : List O} {ns : List Int} : seqL S (.scr ns) = some (ns.map .int) := id rfl
theorem dMod_i {i j : Int} {S : List O} (h : 0 < j) : dInt gMod (.int i) (.int j) S = some (.int (i % j)) := by simp [dInt, gMod, h]
theorem dDiv_i {i j : Int} {S : List O} (h : 0 < j ∧ j < 1073741824) : dInt gDiv (.int i) (.int j) S = some (.int (i / j)) := by simp [dInt, gDiv, h]
theorem dMul_r {i j : Int} {S : List O} (h : -(2 ^ 64) < j ∧ j < 2 ^ 64) : dMul (.int i) (.int j) S = some (.int (i * j)) := by simp only [dMul, gMul]; rw [if_pos (.inr h)]; rfl
theorem dMul_l {i j : Int} {S : List O} (h : -(2 ^ 64) < i ∧ i < 2 ^ 64) : dMul (.int i) (.int j) S = some (.int (i * j)) := by simp only [dMul, gMul]; rw [if_pos (.inl h)]; rfl
theorem bLen_c {ns : List Int} {S : List O} : bLen [.scr ns] S = some (.int ns.length) := by simp [bLen, seqL]
theorem gc_same {n : Nat} {d : D} {S : List O} (h : S.length ≤ n) : gcF n (d, S) = some (d, S) := by unfold gcF; rw [if_pos h]
theorem pow12 {S : List O} : dInt gPow (.int 10) (.int 12) S = some (.int 1000000000000) := by simp [dInt, gPow]
def dicO (o : Option O) : Option (List (Key × D)) := match o with | some (.dic ks) => some ks | _ => none
def keyO (y : D) : Option Key := dK y
def dgK2 (ks : List (Key × D)) (o : Option Key) : Option D := match o with | some k => valD ks k | none => none
def dgK (y : D) (o : Option (List (Key × D))) : Option D := match o with | some ks => dgK2 ks (keyO y) | none => none
def diK2 (neg : Bool) (ks : List (Key × D)) (o : Option Key) : Option D := match o with | some k => some (.bl (if neg then !(valD ks k).isSome else (valD ks k).isSome)) | none => none
def diK (neg : Bool) (y : D) (o : Option (List (Key × D))) : Option D := match o with | some ks => diK2 neg ks (keyO y) | none => none
def ienK (o : Option (D × List O)) : Option (List D × List O) := match o with | some (.tup ds, S) => some (enumD 0 ds, S) | _ => none
def ppK3 (d e : D) (o : Option (List (D × D) × List O)) : Option (List (D × D) × List O) := match o with | some (r, S) => some ((d, e) :: r, S) | none => none
def ppK2 (g : PP) (δ : Sl) (d : D) (o : Option (D × List O)) : Option (List (D × D) × List O) := match o with | some (e, S) => ppK3 d e (g δ S) | none => none
def ppK (f : E) (g : PP) (δ : Sl) (o : Option (D × List O)) : Option (List (D × D) × List O) := match o with | some (d, S) => ppK2 g δ d (f δ S) | none => none
def kdK2 (k : Key) (d : D) (o : Option (List (Key × D))) : Option (List (Key × D)) := match o with | some r => some ((k, d) :: r) | none => none
def kdK (d : D) (r : List (D × D)) (o : Option Key) : Option (List (Key × D)) := match o with | some k => kdK2 k d (keysD r) | none => none
def ddK2 (S : List O) (o : Option (List (Key × D))) : Option (List (Key × D) × List O) := match o with | some ks => some (mergeD [] ks, S) | none => none
def ddK (o : Option (List (D × D) × List O)) : Option (List (Key × D) × List O) := match o with | some (ps, S) => if ps.length ≤ 15 then ddK2 S (keysD ps) else none | none => none
def g2K4 (ks : List (Key × D)) (z : D) (S : List O) (o : Option Key) : Option (D × List O) := match o with | some k => some ((valD ks k).getD z, S) | none => none
def g2K3 (y z : D) (S : List O) (o : Option (List (Key × D))) : Option (D × List O) := match o with | some ks => g2K4 ks z S (keyO y) | none => none
def g2K2 (x y : D) (o : Option (D × List O)) : Option (D × List O) := match o with | some (z, S) => g2K3 y z S (dicS S x) | none => none
def g2K1 (f3 : E) (δ : Sl) (x : D) (o : Option (D × List O)) : Option (D × List O) := match o with | some (y, S) => g2K2 x y (f3 δ S) | none => none
def g2K (f2 f3 : E) (δ : Sl) (o : Option (D × List O)) : Option (D × List O) := match o with | some (x, S) => if isDic S x = true then g2K1 f3 δ x (f2 δ S) else none | none => none
def dpF (k : Key) (d : D) (o : O) : Option O := match o with | .dic ks => if ks.length < 1000 then some (.dic (putD ks k d)) else none | _ => none
def dpK3 (d o : D) (δ : Sl) (S : List O) (k : Option Key) : Option Out := match k with | some k => stK2 δ (setO S o (dpF k d)) | none => none
def dpK2 (d o : D) (δ : Sl) (p : Option (D × List O)) : Option Out := match p with | some (i, S) => dpK3 d o δ S (keyO i) | none => none
def dpK1 (fi : E) (d : D) (δ : Sl) (p : Option (D × List O)) : Option Out := match p with | some (o, S) => dpK2 d o δ (fi δ S) | none => none
def dpK (fo fi : E) (δ : Sl) (p : Option (D × List O)) : Option Out := match p with | some (d, S) => dpK1 fi d δ (fo δ S) | none => none
def dbK2 (S : List O) (o : Option (List (Key × D))) : Option (List (Key × D) × List O) := match o with | some d => some (d, S) | none => none
def dbK (k : Bd) (o : Option (List D × List O)) : Option (List (Key × D) × List O) := match o with | some (ds, S) => dbK2 S (k ds S) | none => none
theorem dicS_d {S : List O} {ks : List (Key × D)} : dicS S (.dic ks) = some ks := id rfl
theorem dicO_1 {ks : List (Key × D)} : dicO (some (.dic ks)) = some ks := id rfl
theorem keyO_s {x : Str} : keyO (.str x) = some (.inr x) := id rfl
theorem keyO_i {x : Int} : keyO (.int x) = some (.inl x) := id rfl
theorem dgK_1 {y : D} {ks : List (Key × D)} : dgK y (some ks) = dgK2 ks (keyO y) := id rfl
theorem dgK2_1 {ks : List (Key × D)} {k : Key} : dgK2 ks (some k) = valD ks k := id rfl
theorem diK_1 {neg : Bool} {y : D} {ks : List (Key × D)} : diK neg y (some ks) = diK2 neg ks (keyO y) := id rfl
theorem diK2_f {ks : List (Key × D)} {k : Key} : diK2 false ks (some k) = some (.bl (valD ks k).isSome) := id rfl
theorem diK2_t {ks : List (Key × D)} {k : Key} : diK2 true ks (some k) = some (.bl (!(valD ks k).isSome)) := id rfl
theorem valD_n {k : Key} : valD [] k = none := id rfl
theorem mergeD_n {ks : List (Key × D)} : mergeD ks [] = ks := id rfl
theorem mergeD_c {ks r : List (Key × D)} {k : Key} {d : D} : mergeD ks ((k, d) :: r) = mergeD (putD ks k d) r := id rfl
theorem putD_n {k : Key} {d : D} : putD [] k d = [(k, d)] := id rfl
theorem ienK_1 {ds : List D} {S : List O} : ienK (some (.tup ds, S)) = some (enumD 0 ds, S) := id rfl
theorem ppNil_u {δ : Sl} {S : List O} : ppNil δ S = some ([], S) := id rfl
theorem ppK_1 {f : E} {g : PP} {δ : Sl} {d : D} {S : List O} : ppK f g δ (some (d, S)) = ppK2 g δ d (f δ S) := id rfl
theorem ppK2_1 {g : PP} {δ : Sl} {d e : D} {S : List O} : ppK2 g δ d (some (e, S)) = ppK3 d e (g δ S) := id rfl
theorem ppK3_1 {d e : D} {r : List (D × D)} {S : List O} : ppK3 d e (some (r, S)) = some ((d, e) :: r, S) := id rfl
theorem keysD_n : keysD [] = some [] := id rfl
theorem kdK_1 {d : D} {r : List (D × D)} {k : Key} : kdK d r (some k) = kdK2 k d (keysD r) := id rfl
theorem kdK2_1 {k : Key} {d : D} {r : List (Key × D)} : kdK2 k d (some r) = some ((k, d) :: r) := id rfl
theorem ddK_1 {ps : List (D × D)} {S : List O} : ddK (some (ps, S)) = if ps.length ≤ 15 then ddK2 S (keysD ps) else none := id rfl
theorem ddK2_1 {S : List O} {ks : List (Key × D)} : ddK2 S (some ks) = some (mergeD [] ks, S) := id rfl
theorem g2K_1 {f2 f3 : E} {δ : Sl} {x : D} {S : List O} : g2K f2 f3 δ (some (x, S)) = if isDic S x = true then g2K1 f3 δ x (f2 δ S) else none := id rfl
theorem g2K1_1 {f3 : E} {δ : Sl} {x y : D} {S : List O} : g2K1 f3 δ x (some (y, S)) = g2K2 x y (f3 δ S) := id rfl
theorem g2K2_1 {x y z : D} {S : List O} : g2K2 x y (some (z, S)) = g2K3 y z S (dicS S x) := id rfl
theorem g2K3_1 {y z : D} {S : List O} {ks : List (Key × D)} : g2K3 y z S (some ks) = g2K4 ks z S (keyO y) := id rfl
theorem g2K4_1 {ks : List (Key × D)} {z : D} {S : List O} {k : Key} : g2K4 ks z S (some k) = some ((valD ks k).getD z, S) := id rfl
theorem isDic_d {S : List O} {ks : List (Key × D)} : isDic S (.dic ks) = true := id rfl
theorem dpK_1 {fo fi : E} {δ : Sl} {d : D} {S : List O} : dpK fo fi δ (some (d, S)) = dpK1 fi d δ (fo δ S) := id rfl
theorem dpK1_1 {fi : E} {d o : D} {δ : Sl} {S : List O} : dpK1 fi d δ (some (o, S)) = dpK2 d o δ (fi δ S) := id rfl
theorem dpK2_1 {d o i : D} {δ : Sl} {S : List O} : dpK2 d o δ (some (i, S)) = dpK3 d o δ S (keyO i) := id rfl
theorem dpK3_1 {d o : D} {δ : Sl} {S : List O} {k : Key} : dpK3 d o δ S (some k) = stK2 δ (setO S o (dpF k d)) := id rfl
theorem dbK_1 {k : Bd} {ds : List D} {S : List O} : dbK k (some (ds, S)) = dbK2 S (k ds S) := id rfl
theorem dbK2_1 {S : List O} {d : List (Key × D)} : dbK2 S (some d) = some (d, S) := id rfl
theorem bdCopy_1 {d : D} {S : List O} : bdCopy [d] S = dicS S d := id rfl
theorem ddNew_u {δ : Sl} {S : List O} : ddNew δ S = some ([], S) := id rfl
theorem dicS_r {S : List O} {n : Nat} : dicS S (.ref n) = dicO S[n]? := by show (match S[n]? with | some (O.dic ks) => some ks | _ => none) = dicO S[n]?; unfold dicO; rfl
theorem dGet_u {x y : D} {S : List O} : dGet x y S = dgK y (dicS S x) := by unfold dGet; cases dicS S x with | none => rfl | some ks => (show ((dK y).bind _) = dgK2 ks (keyO y); show _ = dgK2 ks (dK y); cases dK y <;> rfl)
theorem dInK_u {neg : Bool} {x y : D} {S : List O} : dInK neg y x S = diK neg y (dicS S x) := by unfold dInK; cases dicS S x with | none => rfl | some ks => (show ((dK y).bind _) = diK2 neg ks (keyO y); show _ = diK2 neg ks (dK y); cases dK y <;> rfl)
theorem valD_c {j k : Key} {d : D} {ks : List (Key × D)} : valD ((j, d) :: ks) k = if j = k then some d else valD ks k := by unfold valD; rw [List.find?_cons]; by_cases h : j = k <;> simp [h]
theorem putD_c {j k : Key} {d e : D} {ks : List (Key × D)} : putD ((j, e) :: ks) k d = if j = k then (j, d) :: ks.map (fun kv => if kv.1 = k then (kv.1, d) else kv) else (j, e) :: putD ks k d := by unfold putD; by_cases h : j = k <;> simp only [h, List.any_cons, decide_false, decide_true, Bool.false_or, Bool.true_or, if_false, if_true, List.map_cons, List.cons_append]; split <;> rfl
theorem iEnumD_u {f : E} {δ : Sl} {S : List O} : iEnumD f δ S = ienK (f δ S) := by unfold iEnumD; cases f δ S with | none => rfl | some p => (obtain ⟨d, S1⟩ := p; cases d <;> rfl)
theorem ppCons_u {f1 f2 : E} {g : PP} {δ : Sl} {S : List O} : ppCons f1 f2 g δ S = ppK f2 g δ (f1 δ S) := by unfold ppCons; cases f1 δ S with | none => rfl | some p => (obtain ⟨d, S1⟩ := p; show ((f2 δ S1).bind _) = ppK2 g δ d (f2 δ S1); cases f2 δ S1 with | none => rfl | some q => (obtain ⟨e, S2⟩ := q; show ((g δ S2).bind _) = ppK3 d e (g δ S2); cases g δ S2 <;> rfl))
theorem keysD_c {k d : D} {r : List (D × D)} : keysD ((k, d) :: r) = kdK d r (keyO k) := by show ((dK k).bind _) = kdK d r (dK k); cases dK k with | none => rfl | some k => (show ((keysD r).bind _) = kdK2 k d (keysD r); cases keysD r <;> rfl)
theorem ddDisp_u {g : PP} {δ : Sl} {S : List O} : ddDisp g δ S = ddK (g δ S) := by unfold ddDisp; cases g δ S with | none => rfl | some p => (obtain ⟨ps, S1⟩ := p; show (if ps.length ≤ 15 then _ else _) = (if ps.length ≤ 15 then _ else _); split <;> first | rfl | (show ((keysD ps).bind _) = ddK2 S1 (keysD ps); cases keysD ps <;> rfl))
theorem eGet2_u {f1 f2 f3 : E} {δ : Sl} {S : List O} : eGet2 f1 f2 f3 δ S = g2K f2 f3 δ (f1 δ S) := by
  unfold eGet2
  cases f1 δ S with
  | none => rfl
  | some p =>
    obtain ⟨x, S1⟩ := p
    show (if isDic S1 x = true then _ else _) = (if isDic S1 x = true then _ else _)
    split
    · show ((f2 δ S1).bind _) = g2K1 f3 δ x (f2 δ S1)
      cases f2 δ S1 with
      | none => rfl
      | some q =>
        obtain ⟨y, S2⟩ := q
        show ((f3 δ S2).bind _) = g2K2 x y (f3 δ S2)
        cases f3 δ S2 with
        | none => rfl
        | some r =>
          obtain ⟨z, S3⟩ := r
          show ((dicS S3 x).bind _) = g2K3 y z S3 (dicS S3 x)
          cases dicS S3 x with
          | none => rfl
          | some ks =>
            show ((dK y).bind _) = g2K4 ks z S3 (dK y)
            cases dK y <;> rfl
    · rfl
theorem sDput_u {fe fo fi : E} {δ : Sl} {S : List O} : sDput fe fo fi δ S = dpK fo fi δ (fe δ S) := by
  unfold sDput
  cases fe δ S with
  | none => rfl
  | some p =>
    obtain ⟨d, S1⟩ := p
    show ((fo δ S1).bind _) = dpK1 fi d δ (fo δ S1)
    cases fo δ S1 with
    | none => rfl
    | some q =>
      obtain ⟨o, S2⟩ := q
      show ((fi δ S2).bind _) = dpK2 d o δ (fi δ S2)
      cases fi δ S2 with
      | none => rfl
      | some r =>
        obtain ⟨i, S3⟩ := r
        show ((dK i).bind _) = dpK3 d o δ S3 (dK i)
        cases dK i with
        | none => rfl
        | some k =>
          show ((setO S3 o (dpF k d)).bind _) = stK2 δ (setO S3 o (dpF k d))
          cases setO S3 o (dpF k d) <;> rfl
theorem ddCopy_u {g : A} {δ : Sl} {S : List O} : ddCopy g δ S = dbK bdCopy (g δ S) := by unfold ddCopy ddBi; cases g δ S with | none => rfl | some p => (obtain ⟨ds, S1⟩ := p; show ((bdCopy ds S1).bind _) = dbK2 S1 (bdCopy ds S1); cases bdCopy ds S1 <;> rfl)
end Cb
namespace Cb
open PySem PySem.Spec PyProof.Rows L2
/-! ## lemmas about data and texts -/
theorem atI_in {α : Type} {xs : List α} {i : Int} (h0 : 0 ≤ i) (h1 : i < xs.length) : ∃ x, atI xs i = some x ∧ x ∈ xs := by
  obtain ⟨j, hj⟩ : ∃ j : Nat, i = (j : Int) := ⟨i.toNat, by omega⟩
  subst hj
  have h : j < xs.length := by omega
  exact ⟨xs[j], atI_nat (List.getElem?_eq_getElem h), List.getElem_mem h⟩
theorem atI_map {α β : Type} (f : α → β) (xs : List α) (i : Int) : atI (xs.map f) i = (atI xs i).map f := by
  unfold atI
  rw [List.length_map]
  cases ixN xs.length i with
  | none => rfl
  | some j => show (xs.map f)[j]? = (xs[j]?).map f; rw [List.getElem?_map]
theorem rangeD_len (lo hi : Int) : (rangeD lo hi).length = (hi - lo).toNat := by simp [rangeD]
/-- a comprehension whose turns are known -/
theorem lcD_map {gd : G} {c : T} {e : E} {δ : Sl} (f : D → D) : ∀ {ds : List D} {S : List O}, (∀ d, d ∈ ds → ∃ δ1, gd d δ = some δ1 ∧ c δ1 S = some (true, S) ∧ e δ1 S = some (f d, S)) → lcD gd c e δ ds S = some (ds.map f, S)
  | [], _, _ => rfl
  | d :: ds, S, h => by
    obtain ⟨δ1, h1, h2, h3⟩ := h d List.mem_cons_self
    rw [lcD_c, h1, lcK2_1, h2, lcK3_1, h3, lcK4_1, lcD_map f (fun d hd => h d (List.mem_cons_of_mem _ hd)), lcK5_1]
    rfl
mutual
theorem okD_pc (n : Nat) : ∀ p : Pc, okD n p.d = true
  | .num _ => by simp [Pc.d, okD, okDs]
  | .name _ => by simp [Pc.d, okD, okDs]
  | .fn _ _ b => by simp [Pc.d, okD, okDs, okD_pc n b]
  | .call _ f g => by simp [Pc.d, okD, okDs, okD_pc n f, okD_pc n g]
  | .plus _ f g => by simp [Pc.d, okD, okDs, okD_pc n f, okD_pc n g]
  | .pick _ c f g => by simp [Pc.d, okD, okDs, okD_pc n c, okD_pc n f, okD_pc n g]
  | .rnd b => by simp [Pc.d, okD, okDs, okD_pc n b]
  | .take _ _ b => by simp [Pc.d, okD, okDs, okD_pc n b]
  | .shut _ _ b => by simp [Pc.d, okD, okDs, okD_pc n b]
  | .kept _ fs => by simp [Pc.d, okD, okDs, okD_frs n fs]
theorem okD_fr (n : Nat) : ∀ f : Fr, okD n f.d = true
  | .caller _ p => by simp [Fr.d, okD, okDs, okD_pc n p]
  | .given _ p => by simp [Fr.d, okD, okDs, okD_pc n p]
  | .adder _ p => by simp [Fr.d, okD, okDs, okD_pc n p]
  | .added _ p => by simp [Fr.d, okD, okDs, okD_pc n p]
  | .picker _ p q => by simp [Fr.d, okD, okDs, okD_pc n p, okD_pc n q]
  | .rnd => by simp [Fr.d, okD, okDs]
theorem okD_frs (n : Nat) : ∀ fs : List Fr, okDs n (Fr.ds fs) = true
  | [] => by simp [Fr.ds, okDs]
  | f :: fs => by simp [Fr.ds, okDs, okD_fr n f, okD_frs n fs]
end
/-- the store: no number without an object -/
def okS (S : List O) : Prop := S.all (okO S.length) = true
theorem okS_set {S : List O} (h : okS S) (j : Nat) (s : Int) : okS (S.set j (.lst [.int s])) := by
  unfold okS at h ⊢
  rw [List.length_set]
  rw [List.all_eq_true] at h ⊢
  intro o ho
  rcases List.mem_or_eq_of_mem_set ho with q | q
  · exact h o q
  · subst q; simp [okO, okDs, okD]
/-- a def's own object is forgotten -/
theorem gc_new {S : List O} {d : D} {o : O} (h : okS S) (hd : okD S.length d = true) (hr : ∀ j, d ≠ .ref j) : gcF S.length (d, S ++ [o]) = some (d, S) := by
  unfold gcF
  rw [if_neg (by simp)]
  have e : (S ++ [o]).take S.length = S := by simp
  simp only [e]
  rw [if_pos (show S.all (okO S.length) = true from h)]
  cases d with
  | ref j => exact absurd rfl (hr j)
  | _ => simp only [hd]; rfl

/-! ### names -/
def nmOk (x : Str) : Prop := 1 ≤ x.length ∧ x.length ≤ 8 ∧ ∀ c ∈ x.cps.toList, 97 ≤ c ∧ c ≤ 122
theorem nm_strOk {x : Str} (h : nmOk x) : PySem.PyData.strOk x = true := by
  unfold PySem.PyData.strOk
  rw [Array.all_eq_true']
  intro c hc
  have := h.2.2 c (by simpa using hc)
  simp; omega
theorem letters_eq : (("abcdefghijklmnopqrstuvwxyz" : Str)).cps.toList = (List.range 26).map (· + 97) := by decide +kernel
theorem letters_len : (("abcdefghijklmnopqrstuvwxyz" : Str)).length = 26 := by decide +kernel
theorem letter_at (S : List O) {i : Int} (h0 : 0 ≤ i) (h1 : i < 26) : ∃ c : Nat, dIx (.str "abcdefghijklmnopqrstuvwxyz") (.int i) S = some (.str ⟨#[c]⟩) ∧ 97 ≤ c ∧ c ≤ 122 := by
  obtain ⟨c, h2, h3⟩ := atI_in (xs := (("abcdefghijklmnopqrstuvwxyz" : Str)).cps.toList) h0 (by rw [letters_eq]; simpa using h1)
  refine ⟨c, ?_, ?_⟩
  · unfold dIx
    dsimp only
    rw [letters_len, sizeLine_eq, if_pos (by decide), h2]
    rfl
  · rw [letters_eq] at h3
    obtain ⟨a, h4, h5⟩ := List.mem_map.mp h3
    have := List.mem_range.mp h4
    omega
theorem str_len (x : Str) : x.length = x.cps.toList.length := by show x.cps.size = _; simp
theorem app_cps (x y : Str) : (x ++ y).cps.toList = x.cps.toList ++ y.cps.toList := by
  show (x.cps ++ y.cps).toList = _
  simp
theorem cutS_cps (z : Str) (lo hi : Option Int) : (cutS z lo hi).cps.toList = cutD z.cps.toList lo hi := by
  unfold cutS cutD
  rw [str_len]
theorem join_one : ∀ cs : List Nat, (Str.join "" (cs.map fun c => (⟨#[c]⟩ : Str))).cps.toList = cs
  | [] => rfl
  | [c] => rfl
  | c :: d :: r => by
    show ((⟨#[c]⟩ : Str) ++ "" ++ Str.join "" ((d :: r).map fun c => (⟨#[c]⟩ : Str))).cps.toList = _
    rw [app_cps, app_cps, join_one (d :: r)]
    rfl
theorem join_cps (cs : List Nat) : (Txt.join "" (cs.map fun c => (⟨#[c]⟩ : Str))).cps.toList = cs := by rw [TL.join_eq, join_one]
theorem strsD_map (xs : List Str) : strsD (xs.map D.str) = some xs := by
  induction xs with
  | nil => rfl
  | cons x xs ih => show ((strsD (xs.map D.str)).bind _) = _; rw [ih]; rfl
theorem ones_sum (cs : List Nat) : (((cs.map fun c => (⟨#[c]⟩ : Str)).map (·.length)).sum) = cs.length := by
  induction cs with
  | nil => rfl
  | cons c cs ih => simp only [List.map_cons, List.sum_cons, ih, List.length_cons]; show 1 + _ = _; omega
/-- the signs of letters, by a list of codes -/
theorem dJoin_ones (S : List O) (cs : List Nat) (h : cs.length ≤ 1000) : dJoin (.str "") (.lst (cs.map fun c => D.str ⟨#[c]⟩)) S = some (.str (Txt.join "" (cs.map fun c => (⟨#[c]⟩ : Str)))) := by
  unfold dJoin
  have e : (cs.map fun c => D.str ⟨#[c]⟩) = (cs.map fun c => (⟨#[c]⟩ : Str)).map D.str := by simp
  simp only [seqA, seqL, Option.bind_some, e, strsD_map]
  rw [if_pos]
  rw [ones_sum]
  have : ("" : Str).length = 0 := by decide +kernel
  rw [this]
  omega
end Cb
namespace Cb
open PySem PySem.Spec PyProof.Rows L2
/-! ## one step, plain -/
def Fr.w : Fr → Pc → Pc
  | .caller a g, p => .call a p g
  | .given a f, p => .call a f p
  | .adder a g, p => .plus a p g
  | .added a f, p => .plus a f p
  | .picker a f g, p => .pick a p f g
  | .rnd, p => .rnd p
/-- frames, the innermost first -/
def plug : List Fr → Pc → Pc
  | [], p => p
  | f :: fs, p => plug fs (f.w p)
def inn : Pc → Option (Fr × Pc)
  | .rnd b => if b.isV = true then none else some (.rnd, b)
  | .pick a c f g => if c.isV = true then none else some (.picker a f g, c)
  | .call a f g => if f.isV = true then (if g.isV = true then none else some (.given a f, g)) else some (.caller a g, f)
  | .plus a f g => if f.isV = true then (if g.isV = true then none else some (.added a f, g)) else some (.adder a g, f)
  | _ => none
/-- the frames about what is next, the outermost first -/
def frs : Pc → List Fr
  | .rnd b => if b.isV = true then [] else .rnd :: frs b
  | .pick a c f g => if c.isV = true then [] else .picker a f g :: frs c
  | .call a f g => if f.isV = true then (if g.isV = true then [] else .given a f :: frs g) else .caller a g :: frs f
  | .plus a f g => if f.isV = true then (if g.isV = true then [] else .added a f :: frs g) else .adder a g :: frs f
  | _ => []
def hd : Pc → Pc
  | .rnd b => if b.isV = true then .rnd b else hd b
  | .pick a c f g => if c.isV = true then .pick a c f g else hd c
  | .call a f g => if f.isV = true then (if g.isV = true then .call a f g else hd g) else hd f
  | .plus a f g => if f.isV = true then (if g.isV = true then .plus a f g else hd g) else hd f
  | p => p
def rix : List Fr → Option Nat
  | [] => none
  | .rnd :: _ => some 0
  | _ :: fs => (rix fs).map (· + 1)
def becomes : Pc → Option Pc
  | .fn a x b => some (.shut a x b)
  | .rnd b => some b
  | .call _ (.shut _ x b) v => some (put x v b)
  | .call _ (.kept _ fs) v => some (.rnd (plug fs v))
  | .plus _ (.num m) (.num n) => some (.num (m + n))
  | .pick _ (.num n) f g => some (if n = 0 then f else g)
  | _ => none
def mk : Pc → Int
  | .fn a _ _ => a
  | .call a _ _ => a
  | .plus a _ _ => a
  | .pick a _ _ _ => a
  | .take a _ _ => a
  | _ => 0
inductive Stp where
  | val | stuck (a : Int) | step (p : Pc)
def stepH (fs : List Fr) (h : Pc) : Stp := match h with
  | .take a x b => match rix fs with
    | none => .stuck a
    | some n => .step (plug (fs.drop n) (put x (.kept a (fs.take n)) b))
  | h => match becomes h with
    | none => .stuck (mk h)
    | some q => .step (plug fs q)
def step (p : Pc) : Stp := if p.isV = true then .val else stepH (frs p).reverse (hd p)
def Stp.d (p : Pc) : Stp → D
  | .val => .tup [.str "value", p.d]
  | .stuck a => .tup [.str "stuck", .int a]
  | .step q => .tup [.str "step", q.d]

theorem inn_none {p : Pc} (h : inn p = none) : frs p = [] ∧ hd p = p := by
  cases p <;> simp only [inn, frs, hd] at h ⊢ <;> (try split at h) <;> (try split at h) <;> simp_all
theorem inn_some {p : Pc} {f : Fr} {q : Pc} (h : inn p = some (f, q)) : frs p = f :: frs q ∧ hd p = hd q ∧ p = f.w q ∧ q.isV = false ∧ p.isV = false := by
  cases p <;> simp only [inn, frs, hd] at h ⊢ <;> (try split at h) <;> (try split at h) <;> simp_all [Fr.w, Pc.isV]
  all_goals (obtain ⟨h1, h2⟩ := h; subst h1; subst h2; simp_all)
theorem plug_app : ∀ (fs gs : List Fr) (p : Pc), plug (fs ++ gs) p = plug gs (plug fs p)
  | [], _, _ => rfl
  | f :: fs, gs, p => by show plug (fs ++ gs) (f.w p) = plug gs (plug fs (f.w p)); exact plug_app fs gs _
theorem frs_ind {P : Pc → Prop} (h0 : ∀ p, inn p = none → P p) (h1 : ∀ p f q, inn p = some (f, q) → P q → P p) (p : Pc) : P p := by
  have : ∀ n (p : Pc), (frs p).length ≤ n → P p := by
    intro n
    induction n with
    | zero =>
      intro p hl
      cases e : inn p with
      | none => exact h0 p e
      | some r =>
        obtain ⟨f, q⟩ := r
        have := (inn_some e).1
        rw [this] at hl
        simp at hl
    | succ n ih =>
      intro p hl
      cases e : inn p with
      | none => exact h0 p e
      | some r =>
        obtain ⟨f, q⟩ := r
        have h2 := (inn_some e).1
        rw [h2] at hl
        exact h1 p f q e (ih q (by simpa using hl))
  exact this _ p (Nat.le_refl _)
theorem plug_frs (p : Pc) : plug (frs p).reverse (hd p) = p := by
  induction p using frs_ind with
  | h0 p h => rw [(inn_none h).1, (inn_none h).2]; rfl
  | h1 p f q h ih =>
    obtain ⟨e1, e2, e3, _⟩ := inn_some h
    rw [e1, e2, List.reverse_cons, plug_app, ih, e3]
    rfl
theorem hd_inn (p : Pc) : inn (hd p) = none := by
  induction p using frs_ind with
  | h0 p h => rw [(inn_none h).2]; exact h
  | h1 p f q h ih => rw [(inn_some h).2.1]; exact ih
theorem hd_isV {p : Pc} (h : p.isV = false) : (hd p).isV = false := by
  induction p using frs_ind with
  | h0 p h' => rw [(inn_none h').2]; exact h
  | h1 p f q h' ih => rw [(inn_some h').2.1]; exact ih (inn_some h').2.2.2.1
theorem frs_cd (p : Pc) : (frs p).length + 1 ≤ cd p := by
  induction p using frs_ind with
  | h0 p h => rw [(inn_none h).1]; exact cd_pos' p
  | h1 p f q h ih =>
    obtain ⟨e1, e2, e3, _⟩ := inn_some h
    rw [e1, e3, List.length_cons]
    have : cd q + 1 ≤ cd (f.w q) := by cases f <;> simp only [Fr.w, cd] <;> omega
    omega
where cd_pos' : ∀ p : Pc, 1 ≤ cd p := by intro p; cases p <;> simp [cd]
/-- where the innermost round stands -/
theorem rix_none {l : List Fr} : rix l = none ↔ ∀ f ∈ l, f ≠ .rnd := by
  induction l with
  | nil => simp [rix]
  | cons f l ih =>
    cases f <;> simp [rix, ih]
theorem rix_some : ∀ {l : List Fr} {n : Nat}, rix l = some n → ∃ l1 l2, l = l1 ++ .rnd :: l2 ∧ l1.length = n ∧ ∀ f ∈ l1, f ≠ .rnd
  | [], _, h => by simp [rix] at h
  | f :: l, n, h => by
    cases f with
    | rnd => simp only [rix, Option.some.injEq] at h; subst h; exact ⟨[], l, rfl, rfl, by simp⟩
    | caller a p =>
      simp only [rix, Option.map_eq_some_iff] at h
      obtain ⟨m, h1, h2⟩ := h
      obtain ⟨l1, l2, e, hl, hn⟩ := rix_some h1
      exact ⟨_ :: l1, l2, by rw [e]; rfl, by simp [hl, h2], by simpa using hn⟩
    | given a p =>
      simp only [rix, Option.map_eq_some_iff] at h
      obtain ⟨m, h1, h2⟩ := h
      obtain ⟨l1, l2, e, hl, hn⟩ := rix_some h1
      exact ⟨_ :: l1, l2, by rw [e]; rfl, by simp [hl, h2], by simpa using hn⟩
    | adder a p =>
      simp only [rix, Option.map_eq_some_iff] at h
      obtain ⟨m, h1, h2⟩ := h
      obtain ⟨l1, l2, e, hl, hn⟩ := rix_some h1
      exact ⟨_ :: l1, l2, by rw [e]; rfl, by simp [hl, h2], by simpa using hn⟩
    | added a p =>
      simp only [rix, Option.map_eq_some_iff] at h
      obtain ⟨m, h1, h2⟩ := h
      obtain ⟨l1, l2, e, hl, hn⟩ := rix_some h1
      exact ⟨_ :: l1, l2, by rw [e]; rfl, by simp [hl, h2], by simpa using hn⟩
    | picker a p q =>
      simp only [rix, Option.map_eq_some_iff] at h
      obtain ⟨m, h1, h2⟩ := h
      obtain ⟨l1, l2, e, hl, hn⟩ := rix_some h1
      exact ⟨_ :: l1, l2, by rw [e]; rfl, by simp [hl, h2], by simpa using hn⟩
theorem rix_lt {l : List Fr} {n : Nat} (h : rix l = some n) : n < l.length := by
  obtain ⟨l1, l2, e, hl, _⟩ := rix_some h
  rw [e]; simp; omega
theorem ds_len : ∀ l : List Fr, (Fr.ds l).length = l.length
  | [] => rfl
  | f :: l => by simp [Fr.ds, ds_len l]
theorem ds_app : ∀ l r : List Fr, Fr.ds (l ++ r) = Fr.ds l ++ Fr.ds r
  | [], r => rfl
  | f :: l, r => by simp [Fr.ds, ds_app l r]
theorem ds_map : ∀ l : List Fr, Fr.ds l = l.map Fr.d
  | [] => rfl
  | f :: l => by simp [Fr.ds, ds_map l]
theorem ds_rev (l : List Fr) : Fr.ds l.reverse = (Fr.ds l).reverse := by rw [ds_map, ds_map, List.map_reverse]
theorem ds_take (l : List Fr) (n : Nat) : (Fr.ds l).take n = Fr.ds (l.take n) := by rw [ds_map, ds_map, List.map_take]
theorem ds_drop (l : List Fr) (n : Nat) : (Fr.ds l).drop n = Fr.ds (l.drop n) := by rw [ds_map, ds_map, List.map_drop]
/-! ### lists in data -/
theorem atI_last {α : Type} (xs : List α) (x : α) : atI (xs ++ [x]) (-1) = some x := by
  unfold atI ixN
  have h1 : ¬ (0 : Int) ≤ -1 := by decide
  have h2 : 0 ≤ -1 + ((xs ++ [x]).length : Int) := by simp; omega
  simp
  rw [if_pos (by omega)]
  have : (-1 + ((xs.length : Int) + 1)).toNat = xs.length := by omega
  simp [this]
theorem cut_take {α : Type} (xs : List α) (n : Nat) : cutD xs none (some (n : Int)) = xs.take n := by
  unfold cutD
  rw [HT.sIx_none, HT.sIx_nat]
  simp
theorem cut_drop {α : Type} (xs : List α) (n : Nat) : cutD xs (some (n : Int)) none = xs.drop n := by
  unfold cutD
  rw [HT.sIx_none, HT.sIx_nat]
  by_cases h : n ≤ xs.length
  · rw [Nat.min_eq_left h, List.take_of_length_le (by rw [List.length_drop]; omega)]
  · rw [Nat.min_eq_right (by omega), List.drop_of_length_le (Nat.le_refl _), List.drop_of_length_le (by omega)]
    simp
theorem cut_init {α : Type} (xs : List α) (x : α) : cutD (xs ++ [x]) none (some (-1)) = xs := by
  have e : HT.sIx (xs ++ [x]).length (xs ++ [x]).length (some (-1)) = xs.length := by unfold HT.sIx; simp; omega
  unfold cutD
  rw [HT.sIx_none, e]
  simp
theorem lcD_filter {gd : G} {c : T} {e : E} {δ : Sl} (P : D → Bool) (f : D → D) : ∀ {ds : List D} {S : List O}, (∀ d, d ∈ ds → ∃ δ1, gd d δ = some δ1 ∧ c δ1 S = some (P d, S) ∧ (P d = true → e δ1 S = some (f d, S))) → lcD gd c e δ ds S = some ((ds.filter P).map f, S)
  | [], _, _ => rfl
  | d :: ds, S, h => by
    obtain ⟨δ1, h1, h2, h3⟩ := h d List.mem_cons_self
    have ih := lcD_filter (gd := gd) (c := c) (e := e) (δ := δ) P f (ds := ds) (S := S) (fun d hd => h d (List.mem_cons_of_mem _ hd))
    rw [lcD_c, h1, lcK2_1, h2]
    cases hp : P d with
    | true => rw [lcK3_1, h3 hp, lcK4_1, ih, lcK5_1, List.filter_cons_of_pos hp]; rfl
    | false => rw [lcK3_2, ih, List.filter_cons_of_neg (by simp [hp])]
theorem lcD_fil {α : Type} {gd : G} {c : T} {e : E} {δ : Sl} (P : α → Bool) (h g : α → D) : ∀ {l : List α} {S : List O}, (∀ a, a ∈ l → ∃ δ1, gd (h a) δ = some δ1 ∧ c δ1 S = some (P a, S) ∧ (P a = true → e δ1 S = some (g a, S))) → lcD gd c e δ (l.map h) S = some ((l.filter P).map g, S)
  | [], _, _ => rfl
  | d :: ds, S, hh => by
    obtain ⟨δ1, h1, h2, h3⟩ := hh d List.mem_cons_self
    have ih := lcD_fil (gd := gd) (c := c) (e := e) (δ := δ) P h g (l := ds) (S := S) (fun d hd => hh d (List.mem_cons_of_mem _ hd))
    rw [List.map_cons, lcD_c, h1, lcK2_1, h2]
    cases hp : P d with
    | true => rw [lcK3_1, h3 hp, lcK4_1, ih, lcK5_1, List.filter_cons_of_pos hp]; rfl
    | false => rw [lcK3_2, ih, List.filter_cons_of_neg (by simp [hp])]
theorem lcD_mapL {α : Type} {gd : G} {c : T} {e : E} {δ : Sl} (h g : α → D) {l : List α} {S : List O} (hh : ∀ a, a ∈ l → ∃ δ1, gd (h a) δ = some δ1 ∧ c δ1 S = some (true, S) ∧ e δ1 S = some (g a, S)) : lcD gd c e δ (l.map h) S = some (l.map g, S) := by
  have := lcD_fil (gd := gd) (c := c) (e := e) (δ := δ) (fun _ => true) h g (l := l) (S := S) (fun a ha => let ⟨δ1, h1, h2, h3⟩ := hh a ha; ⟨δ1, h1, h2, fun _ => h3⟩)
  rw [this, List.filter_eq_self.mpr (fun _ _ => rfl)]
end Cb
namespace Cb
open PySem PySem.Spec PyProof.Rows L2
/-! ## how big pieces get, step by step -/
mutual
/-- how deep the data stands -/
def fd : Pc → Nat
  | .num _ => 1
  | .name _ => 1
  | .fn _ _ b => fd b + 1
  | .call _ f g => max (fd f) (fd g) + 1
  | .plus _ f g => max (fd f) (fd g) + 1
  | .pick _ c f g => max (fd c) (max (fd f) (fd g)) + 1
  | .rnd b => fd b + 1
  | .take _ _ b => fd b + 1
  | .shut _ _ b => fd b + 1
  | .kept _ fs => fdF fs + 2
def fdR : Fr → Nat
  | .caller _ p => fd p + 1
  | .given _ p => fd p + 1
  | .adder _ p => fd p + 1
  | .added _ p => fd p + 1
  | .picker _ p q => max (fd p) (fd q) + 1
  | .rnd => 1
def fdF : List Fr → Nat
  | [] => 0
  | f :: fs => max (fdR f) (fdF fs)
end
mutual
theorem fd_is : ∀ p : Pc, (py p.d).depth = fd p
  | .num _ => by simp [Pc.d, py, pyL, PyData.depth, PyData.depthAll, fd]
  | .name _ => by simp [Pc.d, py, pyL, PyData.depth, PyData.depthAll, fd]
  | .fn _ _ b => by simp [Pc.d, py, pyL, PyData.depth, PyData.depthAll, fd, fd_is b]
  | .call _ f g => by simp [Pc.d, py, pyL, PyData.depth, PyData.depthAll, fd, fd_is f, fd_is g]
  | .plus _ f g => by simp [Pc.d, py, pyL, PyData.depth, PyData.depthAll, fd, fd_is f, fd_is g]
  | .pick _ c f g => by simp [Pc.d, py, pyL, PyData.depth, PyData.depthAll, fd, fd_is c, fd_is f, fd_is g]
  | .rnd b => by simp [Pc.d, py, pyL, PyData.depth, PyData.depthAll, fd, fd_is b]
  | .take _ _ b => by simp [Pc.d, py, pyL, PyData.depth, PyData.depthAll, fd, fd_is b]
  | .shut _ _ b => by simp [Pc.d, py, pyL, PyData.depth, PyData.depthAll, fd, fd_is b]
  | .kept _ fs => by simp [Pc.d, py, pyL, PyData.depth, PyData.depthAll, fd, fdF_is fs]
theorem fdR_is : ∀ f : Fr, (py f.d).depth = fdR f
  | .caller _ p => by simp [Fr.d, py, pyL, PyData.depth, PyData.depthAll, fdR, fd_is p]
  | .given _ p => by simp [Fr.d, py, pyL, PyData.depth, PyData.depthAll, fdR, fd_is p]
  | .adder _ p => by simp [Fr.d, py, pyL, PyData.depth, PyData.depthAll, fdR, fd_is p]
  | .added _ p => by simp [Fr.d, py, pyL, PyData.depth, PyData.depthAll, fdR, fd_is p]
  | .picker _ p q => by simp [Fr.d, py, pyL, PyData.depth, PyData.depthAll, fdR, fd_is p, fd_is q]
  | .rnd => by simp [Fr.d, py, pyL, PyData.depth, PyData.depthAll, fdR]
theorem fdF_is : ∀ fs : List Fr, PyData.depthAll (pyL (Fr.ds fs)) = fdF fs
  | [] => by simp [Fr.ds, pyL, PyData.depthAll, fdF]
  | f :: fs => by simp [Fr.ds, pyL, PyData.depthAll, fdF, fdR_is f, fdF_is fs]
end
/-- the longest way without a round from here; anywhere within -/
def us : Pc → Nat
  | .call _ f g => max (us f) (us g) + 1
  | .plus _ f g => max (us f) (us g) + 1
  | .pick _ c f g => max (us c) (max (us f) (us g)) + 1
  | _ => 0
def ms : Pc → Nat
  | .call _ f g => max (max (us f) (us g) + 1) (max (ms f) (ms g))
  | .plus _ f g => max (max (us f) (us g) + 1) (max (ms f) (ms g))
  | .pick _ c f g => max (max (us c) (max (us f) (us g)) + 1) (max (ms c) (max (ms f) (ms g)))
  | .rnd b => ms b
  | _ => 0
theorem us_ms : ∀ p : Pc, us p ≤ ms p := by intro p; cases p <;> simp only [us, ms] <;> omega
theorem us_cd : ∀ p : Pc, us p ≤ cd p
  | .call _ f g => by have := us_cd f; have := us_cd g; simp only [us, cd]; omega
  | .plus _ f g => by have := us_cd f; have := us_cd g; simp only [us, cd]; omega
  | .pick _ c f g => by have := us_cd c; have := us_cd f; have := us_cd g; simp only [us, cd]; omega
  | .num _ => by simp [us]
  | .name _ => by simp [us]
  | .fn .. => by simp [us]
  | .rnd _ => by simp [us]
  | .take .. => by simp [us]
  | .shut .. => by simp [us]
  | .kept .. => by simp [us]
theorem ms_cd : ∀ p : Pc, ms p ≤ cd p
  | .call _ f g => by have := us_cd f; have := us_cd g; have := ms_cd f; have := ms_cd g; simp only [ms, cd]; omega
  | .plus _ f g => by have := us_cd f; have := us_cd g; have := ms_cd f; have := ms_cd g; simp only [ms, cd]; omega
  | .pick _ c f g => by have := us_cd c; have := us_cd f; have := us_cd g; have := ms_cd c; have := ms_cd f; have := ms_cd g; simp only [ms, cd]; omega
  | .rnd b => by have := ms_cd b; simp only [ms, cd]; omega
  | .num _ => by simp [ms]
  | .name _ => by simp [ms]
  | .fn .. => by simp [ms]
  | .take .. => by simp [ms]
  | .shut .. => by simp [ms]
  | .kept .. => by simp [ms]
mutual
def Ok (M V : Nat) : List Str → Pc → Prop
  | _, .num _ => True
  | sc, .name x => x ∈ sc ∧ nmOk x
  | sc, .fn _ x b => nmOk x ∧ cd b ≤ 10 ∧ Ok M V (x :: sc) b
  | sc, .call _ f g => Ok M V sc f ∧ Ok M V sc g
  | sc, .plus _ f g => Ok M V sc f ∧ Ok M V sc g
  | sc, .pick _ c f g => Ok M V sc c ∧ Ok M V sc f ∧ Ok M V sc g
  | sc, .rnd b => Ok M V sc b
  | sc, .take _ x b => nmOk x ∧ cd b ≤ 10 ∧ Ok M V (x :: sc) b
  | _, .shut _ x b => nmOk x ∧ cd b ≤ 10 ∧ fd b + 1 ≤ V ∧ Ok M V [x] b
  | _, .kept _ fs => fs.length ≤ M ∧ ms (plug fs (.num 0)) ≤ M ∧ OkF M V fs
def OkR (M V : Nat) : Fr → Prop
  | .caller _ p => cd p ≤ 30 ∧ fd p + 3 ≤ V ∧ Ok M V [] p
  | .given _ v => v.isV = true ∧ fd v + 3 ≤ V ∧ Ok M V [] v
  | .adder _ p => cd p ≤ 30 ∧ fd p + 3 ≤ V ∧ Ok M V [] p
  | .added _ v => v.isV = true ∧ fd v + 3 ≤ V ∧ Ok M V [] v
  | .picker _ p q => (cd p ≤ 30 ∧ fd p + 3 ≤ V ∧ Ok M V [] p) ∧ cd q ≤ 30 ∧ fd q + 3 ≤ V ∧ Ok M V [] q
  | .rnd => True
def OkF (M V : Nat) : List Fr → Prop
  | [] => True
  | f :: fs => OkR M V f ∧ OkF M V fs
end
mutual
theorem Ok.mono {M M' V V' : Nat} (hM : M ≤ M') (hV : V ≤ V') : ∀ {p : Pc} {sc sc' : List Str}, (∀ y ∈ sc, y ∈ sc') → Ok M V sc p → Ok M' V' sc' p
  | .num _, _, _, _, _ => trivial
  | .name _, _, _, h, ⟨h1, h2⟩ => ⟨h _ h1, h2⟩
  | .fn _ x b, _, _, h, ⟨h1, h2, h3⟩ => ⟨h1, h2, Ok.mono hM hV (fun y hy => by
      rcases List.mem_cons.mp hy with q | q
      · rw [q]; exact List.mem_cons_self
      · exact List.mem_cons_of_mem _ (h y q)) h3⟩
  | .call _ f g, _, _, h, ⟨h1, h2⟩ => ⟨Ok.mono hM hV h h1, Ok.mono hM hV h h2⟩
  | .plus _ f g, _, _, h, ⟨h1, h2⟩ => ⟨Ok.mono hM hV h h1, Ok.mono hM hV h h2⟩
  | .pick _ c f g, _, _, h, ⟨h1, h2, h3⟩ => ⟨Ok.mono hM hV h h1, Ok.mono hM hV h h2, Ok.mono hM hV h h3⟩
  | .rnd b, sc, sc', h, h1 => by
    show Ok M' V' sc' b
    exact Ok.mono (p := b) (sc := sc) hM hV h h1
  | .take _ x b, _, _, h, ⟨h1, h2, h3⟩ => ⟨h1, h2, Ok.mono hM hV (fun y hy => by
      rcases List.mem_cons.mp hy with q | q
      · rw [q]; exact List.mem_cons_self
      · exact List.mem_cons_of_mem _ (h y q)) h3⟩
  | .shut _ x b, _, _, h, ⟨h1, h2, h3, h4⟩ => ⟨h1, h2, Nat.le_trans h3 hV, Ok.mono hM hV (fun y hy => hy) h4⟩
  | .kept _ fs, _, _, h, ⟨h1, h2, h3⟩ => ⟨Nat.le_trans h1 hM, Nat.le_trans h2 hM, OkF.mono hM hV h3⟩
theorem OkR.mono {M M' V V' : Nat} (hM : M ≤ M') (hV : V ≤ V') : ∀ {f : Fr}, OkR M V f → OkR M' V' f
  | .caller _ p, ⟨h1, h2, h3⟩ => ⟨h1, Nat.le_trans h2 hV, Ok.mono hM hV (fun y hy => hy) h3⟩
  | .given _ p, ⟨h1, h2, h3⟩ => ⟨h1, Nat.le_trans h2 hV, Ok.mono hM hV (fun y hy => hy) h3⟩
  | .adder _ p, ⟨h1, h2, h3⟩ => ⟨h1, Nat.le_trans h2 hV, Ok.mono hM hV (fun y hy => hy) h3⟩
  | .added _ p, ⟨h1, h2, h3⟩ => ⟨h1, Nat.le_trans h2 hV, Ok.mono hM hV (fun y hy => hy) h3⟩
  | .picker _ p q, ⟨⟨h1, h2, h3⟩, h4, h5, h6⟩ => ⟨⟨h1, Nat.le_trans h2 hV, Ok.mono hM hV (fun y hy => hy) h3⟩, h4, Nat.le_trans h5 hV, Ok.mono hM hV (fun y hy => hy) h6⟩
  | .rnd, _ => trivial
theorem OkF.mono {M M' V V' : Nat} (hM : M ≤ M') (hV : V ≤ V') : ∀ {fs : List Fr}, OkF M V fs → OkF M' V' fs
  | [], _ => trivial
  | f :: fs, ⟨h1, h2⟩ => ⟨OkR.mono hM hV h1, OkF.mono hM hV h2⟩
end
theorem Ok.put {M V : Nat} {x : Str} {v : Pc} (hv : Ok M V [] v) : ∀ {p : Pc} {sc sc' : List Str}, (∀ y ∈ sc, y = x ∨ y ∈ sc') → (v.isV = true) → Ok M V sc p → Ok M V sc' (put x v p)
  | .num _, _, _, _, _, _ => trivial
  | .name y, sc, sc', h, _, ⟨h1, h2⟩ => by
    simp only [Cb.put]
    split
    · exact hv.mono (Nat.le_refl _) (Nat.le_refl _) (by simp)
    · rename_i hne
      rcases h y h1 with q | q
      · exact absurd q hne
      · exact ⟨q, h2⟩
  | .fn a y b, sc, sc', h, hvv, ⟨h1, h2, h3⟩ => by
    simp only [Cb.put]
    split
    · rename_i e
      refine ⟨h1, h2, h3.mono (Nat.le_refl _) (Nat.le_refl _) fun z hz => ?_⟩
      rcases List.mem_cons.mp hz with q | q
      · rw [q]; exact List.mem_cons_self
      · rcases h z q with q | q
        · rw [q, e]; exact List.mem_cons_self
        · exact List.mem_cons_of_mem _ q
    · refine ⟨h1, by rw [cd_put' x v hvv]; exact h2, Ok.put (p := b) hv (fun z hz => ?_) hvv h3⟩
      rcases List.mem_cons.mp hz with q | q
      · rw [q]; exact .inr List.mem_cons_self
      · rcases h z q with q | q
        · exact .inl q
        · exact .inr (List.mem_cons_of_mem _ q)
  | .take a y b, sc, sc', h, hvv, ⟨h1, h2, h3⟩ => by
    simp only [Cb.put]
    split
    · rename_i e
      refine ⟨h1, h2, h3.mono (Nat.le_refl _) (Nat.le_refl _) fun z hz => ?_⟩
      rcases List.mem_cons.mp hz with q | q
      · rw [q]; exact List.mem_cons_self
      · rcases h z q with q | q
        · rw [q, e]; exact List.mem_cons_self
        · exact List.mem_cons_of_mem _ q
    · refine ⟨h1, by rw [cd_put' x v hvv]; exact h2, Ok.put (p := b) hv (fun z hz => ?_) hvv h3⟩
      rcases List.mem_cons.mp hz with q | q
      · rw [q]; exact .inr List.mem_cons_self
      · rcases h z q with q | q
        · exact .inl q
        · exact .inr (List.mem_cons_of_mem _ q)
  | .call a f g, sc, sc', h, hvv, ⟨h1, h2⟩ => ⟨Ok.put (p := f) hv h hvv h1, Ok.put (p := g) hv h hvv h2⟩
  | .plus a f g, sc, sc', h, hvv, ⟨h1, h2⟩ => ⟨Ok.put (p := f) hv h hvv h1, Ok.put (p := g) hv h hvv h2⟩
  | .pick a c f g, sc, sc', h, hvv, ⟨h1, h2, h3⟩ => ⟨Ok.put (p := c) hv h hvv h1, Ok.put (p := f) hv h hvv h2, Ok.put (p := g) hv h hvv h3⟩
  | .rnd b, sc, sc', h, hvv, h1 => by
    show Ok M V sc' (Cb.put x v b)
    exact Ok.put (p := b) (sc := sc) hv h hvv h1
  | .shut .., _, _, _, _, h => h
  | .kept .., _, _, _, _, h => h
where cd_put' (x : Str) (v : Pc) (hv : v.isV = true) : ∀ (p : Pc), cd (Cb.put x v p) = cd p
  | .num _ => rfl
  | .name y => by
    simp only [Cb.put]
    split
    · cases v <;> first | rfl | (simp [Pc.isV] at hv; done)
    · rfl
  | .fn a y b => by simp only [Cb.put]; split <;> simp [cd, cd_put' x v hv b]
  | .take a y b => by simp only [Cb.put]; split <;> simp [cd, cd_put' x v hv b]
  | .call _ f g => by simp [Cb.put, cd, cd_put' x v hv f, cd_put' x v hv g]
  | .plus _ f g => by simp [Cb.put, cd, cd_put' x v hv f, cd_put' x v hv g]
  | .pick _ c f g => by simp [Cb.put, cd, cd_put' x v hv c, cd_put' x v hv f, cd_put' x v hv g]
  | .rnd b => by simp [Cb.put, cd, cd_put' x v hv b]
  | .shut .. => rfl
  | .kept .. => rfl
theorem str_lay (s : Str) (h : PyData.strOk s = true) : (py (.str s)).canLay0 = true := by simpa [py, PyData.canLay0] using h
mutual
theorem Ok.lay {M V : Nat} : ∀ {p : Pc} {sc : List Str}, Ok M V sc p → (py p.d).canLay0 = true
  | .num _, _, _ => by simp [Pc.d, py, pyL, PyData.canLay0, PyData.canLayAll0]; decide +kernel
  | .name x, _, h => by simp [Pc.d, py, pyL, PyData.canLay0, PyData.canLayAll0, nm_strOk h.2]; decide +kernel
  | .fn a x b, _, h => by simp [Pc.d, py, pyL, PyData.canLay0, PyData.canLayAll0, nm_strOk h.1, Ok.lay h.2.2]; decide +kernel
  | .call _ f g, _, h => by simp [Pc.d, py, pyL, PyData.canLay0, PyData.canLayAll0, Ok.lay h.1, Ok.lay h.2]; decide +kernel
  | .plus _ f g, _, h => by simp [Pc.d, py, pyL, PyData.canLay0, PyData.canLayAll0, Ok.lay h.1, Ok.lay h.2]; decide +kernel
  | .pick _ c f g, _, h => by simp [Pc.d, py, pyL, PyData.canLay0, PyData.canLayAll0, Ok.lay h.1, Ok.lay h.2.1, Ok.lay h.2.2]; decide +kernel
  | .rnd b, sc, h => by
    have h' : Ok M V sc b := h
    simp [Pc.d, py, pyL, PyData.canLay0, PyData.canLayAll0, Ok.lay h']; decide +kernel
  | .take a x b, _, h => by simp [Pc.d, py, pyL, PyData.canLay0, PyData.canLayAll0, nm_strOk h.1, Ok.lay h.2.2]; decide +kernel
  | .shut a x b, _, h => by simp [Pc.d, py, pyL, PyData.canLay0, PyData.canLayAll0, nm_strOk h.1, Ok.lay h.2.2.2]; decide +kernel
  | .kept a fs, _, h => by simp [Pc.d, py, pyL, PyData.canLay0, PyData.canLayAll0, OkF.lay h.2.2]; decide +kernel
theorem OkR.lay {M V : Nat} : ∀ {f : Fr}, OkR M V f → (py f.d).canLay0 = true
  | .caller _ p, h => by simp [Fr.d, py, pyL, PyData.canLay0, PyData.canLayAll0, Ok.lay h.2.2]; decide +kernel
  | .given _ p, h => by simp [Fr.d, py, pyL, PyData.canLay0, PyData.canLayAll0, Ok.lay h.2.2]; decide +kernel
  | .adder _ p, h => by simp [Fr.d, py, pyL, PyData.canLay0, PyData.canLayAll0, Ok.lay h.2.2]; decide +kernel
  | .added _ p, h => by simp [Fr.d, py, pyL, PyData.canLay0, PyData.canLayAll0, Ok.lay h.2.2]; decide +kernel
  | .picker _ p q, h => by simp [Fr.d, py, pyL, PyData.canLay0, PyData.canLayAll0, Ok.lay h.1.2.2, Ok.lay h.2.2.2]; decide +kernel
  | .rnd, _ => by simp [Fr.d, py, pyL, PyData.canLay0, PyData.canLayAll0]; decide +kernel
theorem OkF.lay {M V : Nat} : ∀ {fs : List Fr}, OkF M V fs → PyData.canLayAll0 (pyL (Fr.ds fs)) = true
  | [], _ => by simp [Fr.ds, pyL, PyData.canLayAll0]
  | f :: fs, h => by simp [Fr.ds, pyL, PyData.canLayAll0, OkR.lay h.1, OkF.lay h.2]
end
theorem OkR.fd {M V : Nat} (h3 : 3 ≤ V) {f : Fr} (h : OkR M V f) : fdR f + 2 ≤ V := by
  cases f with
  | caller a p => obtain ⟨h1, h2, _⟩ := h; simp only [fdR]; omega
  | given a p => obtain ⟨h1, h2, _⟩ := h; simp only [fdR]; omega
  | adder a p => obtain ⟨h1, h2, _⟩ := h; simp only [fdR]; omega
  | added a p => obtain ⟨h1, h2, _⟩ := h; simp only [fdR]; omega
  | picker a p q => obtain ⟨⟨h1, h2, _⟩, h4, h5, _⟩ := h; simp only [fdR]; omega
  | rnd => simp only [fdR]; omega
theorem OkF.fd {M V : Nat} (h3 : 3 ≤ V) : ∀ {fs : List Fr}, OkF M V fs → fdF fs + 2 ≤ V
  | [], _ => by simp only [fdF]; omega
  | f :: fs, h => by
    have h1 := h.1.fd h3
    have h2 := OkF.fd h3 h.2
    simp only [fdF]
    omega
/-- a value's depth; a piece's -/
theorem Ok.fdV {M V : Nat} (h3 : 3 ≤ V) {v : Pc} {sc : List Str} (h : Ok M V sc v) (hv : v.isV = true) : fd v ≤ V := by
  cases v with
  | num n => simp only [Cb.fd]; omega
  | shut a x b => simp only [Cb.fd]; exact h.2.2.1
  | kept a fs => simp only [Cb.fd]; exact OkF.fd h3 h.2.2
  | _ => simp [Pc.isV] at hv
theorem Ok.fd {M V : Nat} (h3 : 3 ≤ V) : ∀ {p : Pc} {sc : List Str}, Ok M V sc p → fd p ≤ cd p + V
  | .num _, _, _ => by simp only [Cb.fd, cd]; omega
  | .name x, _, h => by simp only [Cb.fd, cd]; omega
  | .fn a x b, _, h => by have := Ok.fd h3 h.2.2; simp only [Cb.fd, cd]; omega
  | .call _ f g, _, h => by have := Ok.fd h3 h.1; have := Ok.fd h3 h.2; simp only [Cb.fd, cd]; omega
  | .plus _ f g, _, h => by have := Ok.fd h3 h.1; have := Ok.fd h3 h.2; simp only [Cb.fd, cd]; omega
  | .pick _ c f g, _, h => by have := Ok.fd h3 h.1; have := Ok.fd h3 h.2.1; have := Ok.fd h3 h.2.2; simp only [Cb.fd, cd]; omega
  | .rnd b, sc, h => by
    have h' : Ok M V sc b := h
    have := Ok.fd h3 h'; simp only [Cb.fd, cd]; omega
  | .take a x b, _, h => by have := Ok.fd h3 h.2.2; simp only [Cb.fd, cd]; omega
  | .shut a x b, sc, h => by have := Ok.fdV h3 h rfl; simp only [cd]; omega
  | .kept a fs, sc, h => by have := Ok.fdV h3 h rfl; simp only [cd]; omega
/-! ### the way down -/
def Sp : Pc → Prop
  | .rnd b => Sp b
  | .pick _ c f g => Sp c ∧ cd f ≤ 30 ∧ cd g ≤ 30
  | .call _ f g => (f.isV = true ∧ Sp g) ∨ (Sp f ∧ cd g ≤ 30)
  | .plus _ f g => (f.isV = true ∧ Sp g) ∨ (Sp f ∧ cd g ≤ 30)
  | _ => True
theorem sp_of : ∀ {p : Pc}, cd p ≤ 31 → Sp p
  | .rnd b, h => by simp only [cd] at h; exact sp_of (p := b) (by omega)
  | .pick _ c f g, h => by simp only [cd] at h; exact ⟨sp_of (by omega), by omega, by omega⟩
  | .call _ f g, h => by simp only [cd] at h; exact .inr ⟨sp_of (by omega), by omega⟩
  | .plus _ f g, h => by simp only [cd] at h; exact .inr ⟨sp_of (by omega), by omega⟩
  | .num _, _ => trivial
  | .name _, _ => trivial
  | .fn .., _ => trivial
  | .take .., _ => trivial
  | .shut .., _ => trivial
  | .kept .., _ => trivial
def FrP (M V : Nat) : Fr → Prop
  | .caller _ p => cd p ≤ 30 ∧ Ok M V [] p
  | .given _ v => v.isV = true ∧ Ok M V [] v
  | .adder _ p => cd p ≤ 30 ∧ Ok M V [] p
  | .added _ v => v.isV = true ∧ Ok M V [] v
  | .picker _ p q => (cd p ≤ 30 ∧ Ok M V [] p) ∧ cd q ≤ 30 ∧ Ok M V [] q
  | .rnd => True
theorem OkR.frP {M V : Nat} {f : Fr} (h : OkR M V f) : FrP M V f := by
  cases f with
  | caller a p => exact ⟨h.1, h.2.2⟩
  | given a p => exact ⟨h.1, h.2.2⟩
  | adder a p => exact ⟨h.1, h.2.2⟩
  | added a p => exact ⟨h.1, h.2.2⟩
  | picker a p q => exact ⟨⟨h.1.1, h.1.2.2⟩, h.2.1, h.2.2.2⟩
  | rnd => trivial
theorem OkF.frP {M V : Nat} : ∀ {fs : List Fr}, OkF M V fs → ∀ f ∈ fs, FrP M V f
  | [], _, f, hf => by simp at hf
  | g :: fs, h, f, hf => by
    rcases List.mem_cons.mp hf with q | q
    · rw [q]; exact h.1.frP
    · exact OkF.frP h.2 f q
theorem FrP.okR {M V : Nat} (h3 : 3 ≤ V) {f : Fr} (h : FrP M V f) : OkR M (V + 33) f := by
  have m : ∀ {p : Pc} {sc : List Str}, Ok M V sc p → Ok M (V + 33) sc p := fun h => h.mono (Nat.le_refl _) (by omega) fun _ y => y
  cases f with
  | caller a p => exact ⟨h.1, by have := h.2.fd h3; have := h.1; omega, m h.2⟩
  | given a p => exact ⟨h.1, by have := h.2.fdV h3 h.1; omega, m h.2⟩
  | adder a p => exact ⟨h.1, by have := h.2.fd h3; have := h.1; omega, m h.2⟩
  | added a p => exact ⟨h.1, by have := h.2.fdV h3 h.1; omega, m h.2⟩
  | picker a p q => exact ⟨⟨h.1.1, by have := h.1.2.fd h3; have := h.1.1; omega, m h.1.2⟩, h.2.1, by have := h.2.2.fd h3; have := h.2.1; omega, m h.2.2⟩
  | rnd => trivial
theorem okF_of {M V : Nat} (h3 : 3 ≤ V) : ∀ {fs : List Fr}, (∀ f ∈ fs, FrP M V f) → OkF M (V + 33) fs
  | [], _ => trivial
  | f :: fs, h => ⟨(h f List.mem_cons_self).okR h3, okF_of h3 fun g hg => h g (List.mem_cons_of_mem _ hg)⟩
theorem w_ok {M V : Nat} {f : Fr} {q : Pc} (h : FrP M V f) (hq : Ok M V [] q) : Ok M V [] (f.w q) := by
  cases f with
  | caller a p => exact ⟨hq, h.2⟩
  | given a p => exact ⟨h.2, hq⟩
  | adder a p => exact ⟨hq, h.2⟩
  | added a p => exact ⟨h.2, hq⟩
  | picker a p q => exact ⟨hq, h.1.2, h.2.2⟩
  | rnd => exact hq
theorem w_sp {M V : Nat} {f : Fr} {q : Pc} (h : FrP M V f) (hq : Sp q) : Sp (f.w q) := by
  cases f with
  | caller a p => exact .inr ⟨hq, h.1⟩
  | given a p => exact .inl ⟨h.1, hq⟩
  | adder a p => exact .inr ⟨hq, h.1⟩
  | added a p => exact .inl ⟨h.1, hq⟩
  | picker a p q => exact ⟨hq, h.1.1, h.2.1⟩
  | rnd => exact hq
theorem plug_ok {M V : Nat} : ∀ {fs : List Fr} {q : Pc}, (∀ f ∈ fs, FrP M V f) → Ok M V [] q → Ok M V [] (plug fs q)
  | [], _, _, h => h
  | f :: fs, q, h, hq => plug_ok (fs := fs) (fun g hg => h g (List.mem_cons_of_mem _ hg)) (w_ok (h f List.mem_cons_self) hq)
theorem plug_sp {M V : Nat} : ∀ {fs : List Fr} {q : Pc}, (∀ f ∈ fs, FrP M V f) → Sp q → Sp (plug fs q)
  | [], _, _, h => h
  | f :: fs, q, h, hq => plug_sp (fs := fs) (fun g hg => h g (List.mem_cons_of_mem _ hg)) (w_sp (h f List.mem_cons_self) hq)
theorem down {M V : Nat} (p : Pc) (h : Ok M V [] p) (hs : Sp p) : (∀ f ∈ frs p, FrP M V f) ∧ Ok M V [] (hd p) ∧ Sp (hd p) := by
  induction p using frs_ind with
  | h0 p hi => rw [(inn_none hi).1, (inn_none hi).2]; exact ⟨by simp, h, hs⟩
  | h1 p f q hi ih =>
    obtain ⟨e1, e2, e3, e4, _⟩ := inn_some hi
    have key : FrP M V f ∧ Ok M V [] q ∧ Sp q := by
      subst e3
      cases f with
      | rnd => exact ⟨trivial, h, hs⟩
      | caller a g =>
        refine ⟨⟨?_, h.2⟩, h.1, ?_⟩
        · rcases hs with z | z
          · rw [e4] at z; exact absurd z.1 (by simp)
          · exact z.2
        · rcases hs with z | z
          · rw [e4] at z; exact absurd z.1 (by simp)
          · exact z.1
      | adder a g =>
        refine ⟨⟨?_, h.2⟩, h.1, ?_⟩
        · rcases hs with z | z
          · rw [e4] at z; exact absurd z.1 (by simp)
          · exact z.2
        · rcases hs with z | z
          · rw [e4] at z; exact absurd z.1 (by simp)
          · exact z.1
      | given a g =>
        have hv : g.isV = true := by
          cases w : g.isV with
          | true => rfl
          | false => simp [Fr.w, inn, w] at hi
        refine ⟨⟨hv, h.1⟩, h.2, ?_⟩
        rcases hs with z | z
        · exact z.2
        · exact sp_of (by have := z.2; omega)
      | added a g =>
        have hv : g.isV = true := by
          cases w : g.isV with
          | true => rfl
          | false => simp [Fr.w, inn, w] at hi
        refine ⟨⟨hv, h.1⟩, h.2, ?_⟩
        rcases hs with z | z
        · exact z.2
        · exact sp_of (by have := z.2; omega)
      | picker a p1 p2 => exact ⟨⟨⟨hs.2.1, h.2.1⟩, hs.2.2, h.2.2⟩, h.1, hs.1⟩
    obtain ⟨k1, k2, k3⟩ := ih key.2.1 key.2.2
    rw [e1, e2]
    exact ⟨fun g hg => by
      rcases List.mem_cons.mp hg with z | z
      · rw [z]; exact key.1
      · exact k1 g z, k2, k3⟩
theorem plug_ms {d M0 : Nat} : ∀ {fs : List Fr} {h q : Pc}, us q ≤ us h + d → ms q ≤ max (ms h + d) M0 → us (plug fs q) ≤ us (plug fs h) + d ∧ ms (plug fs q) ≤ max (ms (plug fs h) + d) M0
  | [], _, _, a, b => ⟨a, b⟩
  | f :: fs, h, q, a, b => by
    refine plug_ms (fs := fs) (h := f.w h) (q := f.w q) ?_ ?_
    · cases f <;> simp only [Fr.w, us] <;> omega
    · cases f <;> simp only [Fr.w, ms] <;> omega
theorem plug_cd {d : Nat} : ∀ {fs : List Fr} {h q : Pc}, cd q ≤ cd h + d → cd (plug fs q) ≤ cd (plug fs h) + d
  | [], _, _, a => a
  | f :: fs, h, q, a => by
    refine plug_cd (fs := fs) (h := f.w h) (q := f.w q) ?_
    cases f <;> simp only [Fr.w, cd] <;> omega
theorem plug_len {M V : Nat} : ∀ {fs : List Fr} {q : Pc}, (∀ f ∈ fs, FrP M V f) → cd (plug fs q) ≤ fs.length + max (cd q) 30
  | [], _, _ => by simp only [plug, List.length_nil]; omega
  | f :: fs, q, h => by
    have h1 := plug_len (fs := fs) (q := f.w q) (fun g hg => h g (List.mem_cons_of_mem _ hg))
    have h2 := h f List.mem_cons_self
    have hv : ∀ v : Pc, v.isV = true → cd v = 1 := by intro v hv; cases v <;> simp_all [Pc.isV, cd]
    have h3 : cd (f.w q) ≤ max (cd q) 30 + 1 := by
      have hq := cd_pos'' q
      cases f with
      | caller a p => have := h2.1; simp only [Fr.w, cd]; omega
      | given a p => have := hv _ h2.1; simp only [Fr.w, cd]; omega
      | adder a p => have := h2.1; simp only [Fr.w, cd]; omega
      | added a p => have := hv _ h2.1; simp only [Fr.w, cd]; omega
      | picker a p q => have := h2.1.1; have := h2.2.1; simp only [Fr.w, cd]; omega
      | rnd => simp only [Fr.w, cd]; omega
    simp only [plug, List.length_cons]
    omega
where cd_pos'' : ∀ p : Pc, 1 ≤ cd p := by intro p; cases p <;> simp [cd]
theorem plug_us : ∀ {fs : List Fr} {h : Pc}, (∀ f ∈ fs, f ≠ .rnd) → us h + fs.length ≤ us (plug fs h)
  | [], _, _ => Nat.le_refl _
  | f :: fs, h, hf => by
    have h1 := plug_us (fs := fs) (h := f.w h) (fun g hg => hf g (List.mem_cons_of_mem _ hg))
    have h2 : us h + 1 ≤ us (f.w h) := by
      have := hf f List.mem_cons_self
      cases f <;> simp only [Fr.w, us] <;> first | omega | contradiction
    simp only [plug, List.length_cons]
    omega
theorem plug_ms_le : ∀ {fs : List Fr} {h : Pc}, ms h ≤ ms (plug fs h)
  | [], _ => Nat.le_refl _
  | f :: fs, h => by
    have h1 := plug_ms_le (fs := fs) (h := f.w h)
    have h2 : ms h ≤ ms (f.w h) := by cases f <;> simp only [Fr.w, ms] <;> omega
    simp only [plug]
    omega
structure Gd (M V D : Nat) (p : Pc) : Prop where
  ok : Ok M V [] p
  sp : Sp p
  ms : ms p ≤ M
  cd : cd p ≤ D
theorem Gd.mono {M V D M' V' D' : Nat} {p : Pc} (h : Gd M V D p) (h1 : M ≤ M') (h2 : V ≤ V') (h3 : D ≤ D') : Gd M' V' D' p :=
  ⟨h.ok.mono h1 h2 fun _ y => y, h.sp, Nat.le_trans h.ms h1, Nat.le_trans h.cd h3⟩
theorem isV_num {v : Pc} (hv : v.isV = true) : us v = 0 ∧ Cb.ms v = 0 ∧ Cb.cd v = 1 := by cases v <;> simp_all [Pc.isV, us, Cb.ms, Cb.cd]
theorem Gd.step {M V D : Nat} {p q : Pc} (h3 : 3 ≤ V) (g : Gd M V D p) (hs : step p = .step q) : Gd (M + 10) (V + 33) (D + 10) q ∨ Gd M (V + 33) (D + M + 31) q := by
  have hv : p.isV = false := by
    cases w : p.isV with
    | false => rfl
    | true => simp [Cb.step, w] at hs
  have es : Cb.step p = stepH (frs p).reverse (hd p) := by unfold Cb.step; rw [hv]; rfl
  rw [es] at hs
  obtain ⟨d1, d2, d3⟩ := down p g.ok g.sp
  have ep := plug_frs p
  have gm := g.ms
  have gc := g.cd
  rw [← ep] at gm gc
  have d1' : ∀ f ∈ (frs p).reverse, FrP M V f := fun f hf => d1 f (List.mem_reverse.mp hf)
  generalize (frs p).reverse = L at hs gm gc d1'
  have hi := hd_inn p
  have hhv := hd_isV hv
  generalize hd p = h at hs gm gc d2 d3 hi hhv
  -- a new part in the place of what was next
  have new : ∀ (q : Pc), Ok M (V + 33) [] q → Sp q → us q ≤ us h + 0 → Cb.ms q ≤ max (Cb.ms h + 0) M → Cb.cd q ≤ Cb.cd h + 0 → Gd (M + 10) (V + 33) (D + 10) (plug L q) := by
    intro q q1 q2 q3 q4 q5
    have m := plug_ms (fs := L) q3 q4
    have c := plug_cd (fs := L) q5
    exact ⟨(plug_ok (fun f hf => ((d1' f hf).okR h3).frP) q1).mono (by omega) (Nat.le_refl _) fun _ y => y, plug_sp d1' q2, by have := m.2; omega, by omega⟩
  have mV : ∀ {p : Pc} {sc : List Str}, Ok M V sc p → Ok M (V + 33) sc p := fun h => h.mono (Nat.le_refl _) (by omega) fun _ y => y
  cases h with
  | num n => simp [Pc.isV] at hhv
  | shut a x b => simp [Pc.isV] at hhv
  | kept a fs => simp [Pc.isV] at hhv
  | name x => exact absurd d2.1 (by simp)
  | take a x b =>
    simp only [stepH] at hs
    cases hr : rix L with
    | none => rw [hr] at hs; simp at hs
    | some n =>
      rw [hr] at hs
      simp only [Stp.step.injEq] at hs
      subst hs
      obtain ⟨l1, l2, e1, e2, e3⟩ := rix_some hr
      have t1 : L.take n = l1 := by rw [e1, ← e2, List.take_left]
      have t2 : L.drop n = .rnd :: l2 := by rw [e1, ← e2, List.drop_left]
      rw [t1, t2]
      obtain ⟨n1, n2, n3⟩ := d2
      have f1 : ∀ f ∈ l1, FrP M V f := fun f hf => d1' f (by rw [e1]; exact List.mem_append_left _ hf)
      have f2 : ∀ f ∈ Fr.rnd :: l2, FrP M V f := fun f hf => d1' f (by rw [e1]; exact List.mem_append_right _ hf)
      rw [e1, plug_app] at gm gc
      have m1 : Cb.ms (plug l1 (.take a x b)) ≤ M := Nat.le_trans plug_ms_le gm
      have m2 : l1.length ≤ M := by
        have := plug_us (fs := l1) (h := .take a x b) e3
        have := us_ms (plug l1 (.take a x b))
        omega
      have m3 : Cb.ms (plug l1 (.num 0)) ≤ M := by
        have := (plug_ms (d := 0) (M0 := M) (fs := l1) (h := .take a x b) (q := .num 0) (by simp [us]) (by simp [Cb.ms])).2
        omega
      have kept : Ok M (V + 33) [] (.kept a l1) := ⟨m2, m3, okF_of h3 f1⟩
      have q1 : Ok M (V + 33) [] (Cb.put x (.kept a l1) b) := Ok.put kept (sc := [x]) (by simp) rfl (mV n3)
      have q2 : Cb.cd (Cb.put x (.kept a l1) b) ≤ 10 := by rw [Ok.put.cd_put' x _ rfl]; exact n2
      left
      refine ⟨(plug_ok (fun f hf => ((f2 f hf).okR h3).frP) q1).mono (by omega) (Nat.le_refl _) fun _ y => y, plug_sp f2 (sp_of (by omega)), ?_, ?_⟩
      · have := (plug_ms (d := 10) (M0 := 10) (fs := .rnd :: l2) (h := plug l1 (.take a x b)) (q := Cb.put x (.kept a l1) b) (by have := us_cd (Cb.put x (.kept a l1) b); omega) (by have := ms_cd (Cb.put x (.kept a l1) b); omega)).2
        omega
      · have := plug_cd (d := 10) (fs := .rnd :: l2) (h := plug l1 (.take a x b)) (q := Cb.put x (.kept a l1) b) (by omega)
        omega
  | fn a x b =>
    simp only [stepH, becomes, Stp.step.injEq] at hs
    subst hs
    left
    obtain ⟨n1, n2, n3⟩ := d2
    have := n3.fd h3
    exact new _ ⟨n1, n2, by omega, mV n3⟩ trivial (by simp [us]) (by simp [Cb.ms]) (by simp [Cb.cd])
  | rnd b =>
    simp only [stepH, becomes, Stp.step.injEq] at hs
    subst hs
    left
    have bv : b.isV = true := by
      cases w : b.isV with
      | true => rfl
      | false => simp [inn, w] at hi
    obtain ⟨b1, b2, b3⟩ := isV_num bv
    have d2 : Ok M V [] b := d2
    exact new _ (mV d2) (by cases b <;> first | trivial | (simp [Pc.isV] at bv; done)) (by omega) (by omega) (by simp only [Cb.cd]; omega)
  | call a f v =>
    have hf : f.isV = true ∧ v.isV = true := by
      cases q : f.isV <;> cases q' : v.isV <;> simp [inn, q, q'] at hi ⊢
    obtain ⟨hf, hv'⟩ := hf
    obtain ⟨o1, o2⟩ := d2
    cases f with
    | num n => simp [stepH, becomes] at hs
    | shut c x b =>
      simp only [stepH, becomes, Stp.step.injEq] at hs
      subst hs
      left
      obtain ⟨n1, n2, n3, n4⟩ := o1
      have q1 : Ok M (V + 33) [] (Cb.put x v b) := Ok.put (mV o2) (sc := [x]) (by simp) hv' (mV n4)
      have q2 : Cb.cd (Cb.put x v b) ≤ 10 := by rw [Ok.put.cd_put' x _ hv']; exact n2
      refine ⟨(plug_ok (fun f hf => ((d1' f hf).okR h3).frP) q1).mono (by omega) (Nat.le_refl _) fun _ y => y, plug_sp d1' (sp_of (by omega)), ?_, ?_⟩
      · have := (plug_ms (d := 10) (M0 := 10) (fs := L) (h := .call a (.shut c x b) v) (q := Cb.put x v b) (by have := us_cd (Cb.put x v b); omega) (by have := ms_cd (Cb.put x v b); omega)).2
        omega
      · have := plug_cd (d := 10) (fs := L) (h := .call a (.shut c x b) v) (q := Cb.put x v b) (by omega)
        omega
    | kept c fs =>
      simp only [stepH, becomes, Stp.step.injEq] at hs
      subst hs
      right
      obtain ⟨n1, n2, n3⟩ := o1
      obtain ⟨v1, v2, v3⟩ := isV_num hv'
      have fp := n3.frP
      have q1 : Ok M V [] (plug fs v) := plug_ok fp o2
      have q2 : Sp (plug fs v) := plug_sp fp (by cases v <;> first | trivial | (simp [Pc.isV] at hv'; done))
      have q3 := plug_len (q := v) fp
      have q4 := (plug_ms (d := 0) (M0 := M) (fs := fs) (h := .num 0) (q := v) (by simp [us, v1]) (by simp [Cb.ms, v2])).2
      refine ⟨plug_ok (fun f hf => ((d1' f hf).okR h3).frP) (mV q1), plug_sp d1' q2, ?_, ?_⟩
      · have := (plug_ms (d := 0) (M0 := M) (fs := L) (h := .call a (.kept c fs) v) (q := .rnd (plug fs v)) (by simp [us]) (by simp only [Cb.ms]; omega)).2
        omega
      · have := plug_cd (d := M + 31) (fs := L) (h := .call a (.kept c fs) v) (q := .rnd (plug fs v)) (by simp only [Cb.cd]; omega)
        omega
    | _ => simp [Pc.isV] at hf
  | plus a f v =>
    cases f with
    | num m =>
      cases v with
      | num n =>
        simp only [stepH, becomes, Stp.step.injEq] at hs
        subst hs
        left
        exact new _ trivial trivial (by simp [us]) (by simp [Cb.ms]) (by simp [Cb.cd])
      | _ => simp [stepH, becomes] at hs
    | _ => simp [stepH, becomes] at hs
  | pick a c f v =>
    cases c with
    | num n =>
      simp only [stepH, becomes, Stp.step.injEq] at hs
      subst hs
      left
      obtain ⟨o1, o2, o3⟩ := d2
      obtain ⟨s1, s2, s3⟩ := d3
      split
      · exact new _ (mV o2) (sp_of (by omega)) (by simp only [us]; omega) (by simp only [Cb.ms]; omega) (by simp only [Cb.cd]; omega)
      · exact new _ (mV o3) (sp_of (by omega)) (by simp only [us]; omega) (by simp only [Cb.ms]; omega) (by simp only [Cb.cd]; omega)
    | _ => simp [stepH, becomes] at hs
end Cb
namespace Cb
open PySem PySem.Spec PyProof.Rows L2
inductive Nm where
  | is_value | put_in | inner_of | parted | wrapped | plugged | to_round | called | done_here | stepped | _law_cell_at | _law_mixed | _law_name_by | _law_mark_by | _law_leaf | _law_gone_on | _law_made | _law_piece | _law_value | _law_put | _law_inward | _law_line | _law_frame | _law_about | _law_in_frames | _law_becomes | _law_step
abbrev Fns := Nm → Fn
abbrev b_is_value (F : Fns) : B :=
  (sRet (eOr (eOp (dEq 64) (eOp dIx (eVar 0) (eC (.int 0))) (eC (.str "num"))) (eOr (eOp (dEq 64) (eOp dIx (eVar 0) (eC (.int 0))) (eC (.str "shut"))) (eOp (dEq 64) (eOp dIx (eVar 0) (eC (.int 0))) (eC (.str "kept"))))))
abbrev b_put_in (F : Fns) : B :=
  (sSeq (sIf (tOf (eCall 1 (F .is_value) (aCons (eVar 0) aNil))) (sRet (eVar 0)) sNext)
  (sSeq (sIf (tOf (eOp (dEq 64) (eOp dIx (eVar 0) (eC (.int 0))) (eC (.str "name")))) (sRet (eIf (tOf (eOp (dEq 64) (eOp dIx (eVar 0) (eC (.int 1))) (eVar 1))) (eVar 2) (eVar 0))) sNext)
  (sSeq (sIf (tOf (eOp (dEq 64) (eOp dIx (eVar 0) (eC (.int 0))) (eC (.str "round")))) (sRet (eTup (aCons (eC (.str "round")) (aCons (eCall 3 (F .put_in) (aCons (eOp dIx (eVar 0) (eC (.int 1))) (aCons (eVar 1) (aCons (eVar 2) aNil)))) aNil)))) sNext)
  (sSeq (sIf (tfOr (tOf (eOp (dEq 64) (eOp dIx (eVar 0) (eC (.int 0))) (eC (.str "fun")))) (tOf (eOp (dEq 64) (eOp dIx (eVar 0) (eC (.int 0))) (eC (.str "take"))))) (sSeq (sIf (tOf (eOp (dEq 64) (eOp dIx (eVar 0) (eC (.int 2))) (eVar 1))) (sRet (eVar 0)) sNext)
  (sRet (eOp dAdd (eSlice (eVar 0) ptN (ptS (eC (.int 3)))) (eTup (aCons (eCall 3 (F .put_in) (aCons (eOp dIx (eVar 0) (eC (.int 3))) (aCons (eVar 1) (aCons (eVar 2) aNil)))) aNil))))) sNext)
  (sRet (eOp dAdd (eSlice (eVar 0) ptN (ptS (eC (.int 2)))) (eBi bTup (aCons (eL (aLc (iTupD (eSlice (eVar 0) (ptS (eC (.int 2))) ptN)) (gdName 3) tTrue (eCall 3 (F .put_in) (aCons (eVar 3) (aCons (eVar 1) (aCons (eVar 2) aNil)))) [3])) aNil))))))))
abbrev b_inner_of (F : Fns) : B :=
  (sSeq (sSet 1 (eOp dIx (eVar 0) (eC (.int 0))))
  (sSeq (sIf (tfAnd (tOf (eOp (dEq 64) (eVar 1) (eC (.str "round")))) (tfNot (tOf (eCall 1 (F .is_value) (aCons (eOp dIx (eVar 0) (eC (.int 1))) aNil))))) (sRet (eTup (aCons (eTup (aCons (eC (.str "round")) aNil)) (aCons (eOp dIx (eVar 0) (eC (.int 1))) aNil)))) sNext)
  (sSeq (sIf (tfAnd (tOf (eOp (dEq 64) (eVar 1) (eC (.str "pick")))) (tfNot (tOf (eCall 1 (F .is_value) (aCons (eOp dIx (eVar 0) (eC (.int 2))) aNil))))) (sRet (eTup (aCons (eTup (aCons (eC (.str "picker")) (aCons (eOp dIx (eVar 0) (eC (.int 1))) (aCons (eOp dIx (eVar 0) (eC (.int 3))) (aCons (eOp dIx (eVar 0) (eC (.int 4))) aNil))))) (aCons (eOp dIx (eVar 0) (eC (.int 2))) aNil)))) sNext)
  (sSeq (sIf (tfOr (tOf (eOp (dEq 64) (eVar 1) (eC (.str "call")))) (tOf (eOp (dEq 64) (eVar 1) (eC (.str "plus"))))) (sSeq (sSet 2 (eIf (tOf (eOp (dEq 64) (eVar 1) (eC (.str "call")))) (eTup (aCons (eC (.str "caller")) (aCons (eC (.str "given")) aNil))) (eTup (aCons (eC (.str "adder")) (aCons (eC (.str "added")) aNil)))))
  (sSeq (sIf (tfNot (tOf (eCall 1 (F .is_value) (aCons (eOp dIx (eVar 0) (eC (.int 2))) aNil)))) (sRet (eTup (aCons (eTup (aCons (eOp dIx (eVar 2) (eC (.int 0))) (aCons (eOp dIx (eVar 0) (eC (.int 1))) (aCons (eOp dIx (eVar 0) (eC (.int 3))) aNil)))) (aCons (eOp dIx (eVar 0) (eC (.int 2))) aNil)))) sNext)
  (sIf (tfNot (tOf (eCall 1 (F .is_value) (aCons (eOp dIx (eVar 0) (eC (.int 3))) aNil)))) (sRet (eTup (aCons (eTup (aCons (eOp dIx (eVar 2) (eC (.int 1))) (aCons (eOp dIx (eVar 0) (eC (.int 1))) (aCons (eOp dIx (eVar 0) (eC (.int 2))) aNil)))) (aCons (eOp dIx (eVar 0) (eC (.int 3))) aNil)))) sNext))) sNext)
  (sRet (eC .non))))))
abbrev b_parted (F : Fns) : B :=
  (sSeq (sSet 1 (eLM (lDisp aNil)))
  (sSeq (sSet 2 (eCall 1 (F .inner_of) (aCons (eVar 0) aNil)))
  (sSeq (sWhile (tOf (eOp (dIsN true) (eVar 2) (eC .non))) (sSeq (sExp (eMeth1 kAppend (eVar 1) (eOp dIx (eVar 2) (eC (.int 0)))))
  (sSeq (sSet 0 (eOp dIx (eVar 2) (eC (.int 1))))
  (sSet 2 (eCall 1 (F .inner_of) (aCons (eVar 0) aNil))))))
  (sSeq (sExp (eMeth0 kReverse (eVar 1)))
  (sRet (eTup (aCons (eBi bTup (aCons (eVar 1) aNil)) (aCons (eVar 0) aNil))))))))
abbrev b_wrapped (F : Fns) : B :=
  (sSeq (sIf (tOf (eOp (dEq 64) (eOp dIx (eVar 0) (eC (.int 0))) (eC (.str "caller")))) (sRet (eTup (aCons (eC (.str "call")) (aCons (eOp dIx (eVar 0) (eC (.int 1))) (aCons (eVar 1) (aCons (eOp dIx (eVar 0) (eC (.int 2))) aNil)))))) sNext)
  (sSeq (sIf (tOf (eOp (dEq 64) (eOp dIx (eVar 0) (eC (.int 0))) (eC (.str "given")))) (sRet (eTup (aCons (eC (.str "call")) (aCons (eOp dIx (eVar 0) (eC (.int 1))) (aCons (eOp dIx (eVar 0) (eC (.int 2))) (aCons (eVar 1) aNil)))))) sNext)
  (sSeq (sIf (tOf (eOp (dEq 64) (eOp dIx (eVar 0) (eC (.int 0))) (eC (.str "adder")))) (sRet (eTup (aCons (eC (.str "plus")) (aCons (eOp dIx (eVar 0) (eC (.int 1))) (aCons (eVar 1) (aCons (eOp dIx (eVar 0) (eC (.int 2))) aNil)))))) sNext)
  (sSeq (sIf (tOf (eOp (dEq 64) (eOp dIx (eVar 0) (eC (.int 0))) (eC (.str "added")))) (sRet (eTup (aCons (eC (.str "plus")) (aCons (eOp dIx (eVar 0) (eC (.int 1))) (aCons (eOp dIx (eVar 0) (eC (.int 2))) (aCons (eVar 1) aNil)))))) sNext)
  (sSeq (sIf (tOf (eOp (dEq 64) (eOp dIx (eVar 0) (eC (.int 0))) (eC (.str "picker")))) (sRet (eTup (aCons (eC (.str "pick")) (aCons (eOp dIx (eVar 0) (eC (.int 1))) (aCons (eVar 1) (aCons (eOp dIx (eVar 0) (eC (.int 2))) (aCons (eOp dIx (eVar 0) (eC (.int 3))) aNil))))))) sNext)
  (sRet (eTup (aCons (eC (.str "round")) (aCons (eVar 1) aNil)))))))))
abbrev b_plugged (F : Fns) : B :=
  (sSeq (sFor (iTupD (eVar 0)) (gdName 2) (sSet 1 (eCall 2 (F .wrapped) (aCons (eVar 2) (aCons (eVar 1) aNil)))))
  (sRet (eVar 1)))
abbrev b_to_round (F : Fns) : B :=
  (sSeq (sFor (iEnumD (eVar 0)) (gdTup 2 (gsCons (gdName 1) (gsCons (gdName 2) gsNil))) (sIf (tOf (eOp (dEq 64) (eOp dIx (eVar 2) (eC (.int 0))) (eC (.str "round")))) (sRet (eVar 1)) sNext))
  (sRet (eC .non)))
abbrev b_called (F : Fns) : B :=
  (sSeq (sIf (tOf (eOp (dEq 64) (eOp dIx (eOp dIx (eVar 0) (eC (.int 2))) (eC (.int 0))) (eC (.str "shut")))) (sRet (eCall 3 (F .put_in) (aCons (eOp dIx (eOp dIx (eVar 0) (eC (.int 2))) (eC (.int 3))) (aCons (eOp dIx (eOp dIx (eVar 0) (eC (.int 2))) (eC (.int 2))) (aCons (eOp dIx (eVar 0) (eC (.int 3))) aNil))))) sNext)
  (sSeq (sIf (tOf (eOp (dEq 64) (eOp dIx (eOp dIx (eVar 0) (eC (.int 2))) (eC (.int 0))) (eC (.str "kept")))) (sRet (eTup (aCons (eC (.str "round")) (aCons (eCall 2 (F .plugged) (aCons (eOp dIx (eOp dIx (eVar 0) (eC (.int 2))) (eC (.int 2))) (aCons (eOp dIx (eVar 0) (eC (.int 3))) aNil))) aNil)))) sNext)
  (sRet (eC .non))))
abbrev b_done_here (F : Fns) : B :=
  (sSeq (sIf (tOf (eOp (dEq 64) (eOp dIx (eVar 0) (eC (.int 0))) (eC (.str "fun")))) (sRet (eOp dAdd (eTup (aCons (eC (.str "shut")) aNil)) (eSlice (eVar 0) (ptS (eC (.int 1))) ptN))) sNext)
  (sSeq (sIf (tOf (eOp (dEq 64) (eOp dIx (eVar 0) (eC (.int 0))) (eC (.str "round")))) (sRet (eOp dIx (eVar 0) (eC (.int 1)))) sNext)
  (sSeq (sIf (tOf (eOp (dEq 64) (eOp dIx (eVar 0) (eC (.int 0))) (eC (.str "call")))) (sRet (eCall 1 (F .called) (aCons (eVar 0) aNil))) sNext)
  (sSeq (sIf (tOf (eOp (dEq 64) (eOp dIx (eVar 0) (eC (.int 0))) (eC (.str "plus")))) (sSeq (sIf (tfAnd (tOf (eOp (dEq 64) (eOp dIx (eOp dIx (eVar 0) (eC (.int 2))) (eC (.int 0))) (eC (.str "num")))) (tOf (eOp (dEq 64) (eOp dIx (eOp dIx (eVar 0) (eC (.int 3))) (eC (.int 0))) (eC (.str "num"))))) (sRet (eTup (aCons (eC (.str "num")) (aCons (eOp dAdd (eOp dIx (eOp dIx (eVar 0) (eC (.int 2))) (eC (.int 1))) (eOp dIx (eOp dIx (eVar 0) (eC (.int 3))) (eC (.int 1)))) aNil)))) sNext)
  (sRet (eC .non))) sNext)
  (sSeq (sIf (tOf (eOp (dNe 64) (eOp dIx (eOp dIx (eVar 0) (eC (.int 2))) (eC (.int 0))) (eC (.str "num")))) (sRet (eC .non)) sNext)
  (sRet (eIf (tOf (eOp (dEq 64) (eOp dIx (eOp dIx (eVar 0) (eC (.int 2))) (eC (.int 1))) (eC (.int 0)))) (eOp dIx (eVar 0) (eC (.int 3))) (eOp dIx (eVar 0) (eC (.int 4))))))))))
def b_stepped_t5 (F : Fns) : B :=
  (sRet (eTup (aCons (eC (.str "step")) (aCons (eCall 2 (F .plugged) (aCons (eVar 1) (aCons (eVar 3) aNil))) aNil))))
def b_stepped_t4 (F : Fns) : B :=
  (sSeq (sIf (tOf (eOp (dIsN false) (eVar 3) (eC .non))) (sRet (eTup (aCons (eC (.str "stuck")) (aCons (eOp dIx (eVar 2) (eC (.int 1))) aNil)))) sNext)
  (b_stepped_t5 F))
def b_stepped_t3 (F : Fns) : B :=
  (sSeq (sSet 3 (eCall 1 (F .done_here) (aCons (eVar 2) aNil)))
  (b_stepped_t4 F))
def b_stepped_t2 (F : Fns) : B :=
  (sSeq (sIf (tOf (eOp (dEq 64) (eOp dIx (eVar 2) (eC (.int 0))) (eC (.str "take")))) (sSeq (sSet 4 (eCall 1 (F .to_round) (aCons (eVar 1) aNil)))
  (sSeq (sIf (tOf (eOp (dIsN false) (eVar 4) (eC .non))) (sRet (eTup (aCons (eC (.str "stuck")) (aCons (eOp dIx (eVar 2) (eC (.int 1))) aNil)))) sNext)
  (sSeq (sSet 5 (eTup (aCons (eC (.str "kept")) (aCons (eOp dIx (eVar 2) (eC (.int 1))) (aCons (eSlice (eVar 1) ptN (ptS (eVar 4))) aNil)))))
  (sRet (eTup (aCons (eC (.str "step")) (aCons (eCall 2 (F .plugged) (aCons (eSlice (eVar 1) (ptS (eVar 4)) ptN) (aCons (eCall 3 (F .put_in) (aCons (eOp dIx (eVar 2) (eC (.int 3))) (aCons (eOp dIx (eVar 2) (eC (.int 2))) (aCons (eVar 5) aNil)))) aNil))) aNil))))))) sNext)
  (b_stepped_t3 F))
def b_stepped_t1 (F : Fns) : B :=
  (sSeq (sAsg (eCall 1 (F .parted) (aCons (eVar 0) aNil)) (gdTup 2 (gsCons (gdName 1) (gsCons (gdName 2) gsNil))))
  (b_stepped_t2 F))
abbrev b_stepped (F : Fns) : B :=
  (sSeq (sIf (tOf (eCall 1 (F .is_value) (aCons (eVar 0) aNil))) (sRet (eTup (aCons (eC (.str "value")) (aCons (eVar 0) aNil)))) sNext)
  (b_stepped_t1 F))
abbrev b__law_cell_at (F : Fns) : B :=
  (sSeq (sIf (tOf (eOp (dCmp fun i j => decide (i < j)) (eVar 1) (eBi bLen (aCons (eVar 0) aNil)))) (sRet (eOp dIx (eVar 0) (eVar 1))) sNext)
  (sRet (eC (.int 0))))
abbrev b__law_mixed (F : Fns) : B :=
  (sSeq (sSet 1 (eOp (dInt gMod) (eOp dAdd (eOp dMul (eVar 0) (eC (.int 48271))) (eC (.int 7919))) (eC (.int 2147483647))))
  (sRet (eOp (dInt gMod) (eOp dAdd (eOp dMul (eVar 1) (eVar 1)) (eOp (dInt gDiv) (eVar 1) (eC (.int 7)))) (eC (.int 2147483647)))))
abbrev b__law_name_by (F : Fns) : B :=
  (sSeq (sSet 1 (eC (.str "abcdefghijklmnopqrstuvwxyz")))
  (sSeq (sIf (tOf (eOp (dEq 64) (eOp (dInt gMod) (eVar 0) (eC (.int 3))) (eC (.int 0)))) (sRet (eOp dIx (eVar 1) (eOp (dInt gMod) (eOp (dInt gDiv) (eVar 0) (eC (.int 3))) (eC (.int 4))))) sNext)
  (sSeq (sSet 2 (eOp dAdd (eC (.int 1)) (eOp (dInt gMod) (eOp (dInt gDiv) (eVar 0) (eC (.int 3))) (eC (.int 8)))))
  (sSeq (sSet 3 (eS1 dJoin (eC (.str "")) (eL (aLc (iRange1 (aCons (eVar 2) aNil)) (gdName 5) tTrue (eOp dIx (eVar 1) (eOp (dInt gMod) (eOp dAdd (eOp (dInt gDiv) (eVar 0) (eC (.int 24))) (eOp dMul (eC (.int 5)) (eVar 5))) (eC (.int 26)))) [5]))))
  (sSeq (sSet 4 (eOp (dInt gMod) (eOp (dInt gDiv) (eVar 0) (eC (.int 624))) (eVar 2)))
  (sRet (eOp dAdd (eOp dAdd (eSlice (eVar 3) ptN (ptS (eVar 4))) (eOp dIx (eVar 1) (eOp (dInt gMod) (eOp (dInt gDiv) (eVar 0) (eC (.int 5))) (eC (.int 26))))) (eSlice (eVar 3) (ptS (eOp dAdd (eVar 4) (eC (.int 1)))) ptN))))))))
abbrev b__law_mark_by (F : Fns) : B :=
  (sSeq (sIf (tOf (eOp (dEq 64) (eOp (dInt gMod) (eVar 0) (eC (.int 2))) (eC (.int 0)))) (sRet (eOp (dInt gMod) (eOp (dInt gDiv) (eVar 0) (eC (.int 2))) (eC (.int 10000)))) sNext)
  (sRet (eOp (dInt gMod) (eOp (dInt gDiv) (eVar 0) (eC (.int 2))) (eC (.int 6)))))
abbrev b__law_leaf (F : Fns) : B :=
  (sSeq (sIf (tfAnd (tOf (eOp (dNe 64) (eVar 1) (eL (lDisp aNil)))) (tOf (eOp (dCmp fun i j => decide (i > j)) (eOp (dInt gMod) (eVar 0) (eC (.int 3))) (eC (.int 0))))) (sRet (eTup (aCons (eC (.str "name")) (aCons (eOp dIx (eVar 1) (eOp (dInt gMod) (eOp (dInt gDiv) (eVar 0) (eC (.int 3))) (eBi bLen (aCons (eVar 1) aNil)))) aNil)))) sNext)
  (sSeq (sIf (tOf (eOp (dEq 64) (eOp (dInt gMod) (eVar 0) (eC (.int 11))) (eC (.int 0)))) (sRet (eTup (aCons (eC (.str "num")) (aCons (eOp dAdd (eOp (dInt gSub) (eOp (dInt gMod) (eOp dMul (eVar 0) (eC (.int 65537))) (eOp (dInt gSub) (eOp dMul (eC (.int 2)) (eOp (dInt gPow) (eC (.int 10)) (eC (.int 12)))) (eC (.int 1)))) (eOp (dInt gPow) (eC (.int 10)) (eC (.int 12)))) (eC (.int 1))) aNil)))) sNext)
  (sRet (eTup (aCons (eC (.str "num")) (aCons (eOp (dInt gSub) (eOp (dInt gMod) (eOp (dInt gDiv) (eVar 0) (eC (.int 3))) (eC (.int 7))) (eC (.int 2))) aNil))))))
def b__law_gone_on_t6 (F : Fns) : B :=
  (sRet (eVar 5))
def b__law_gone_on_t5 (F : Fns) : B :=
  (sSeq (sIf (tOf (eOp (dEq 64) (eOp (dInt gMod) (eVar 4) (eC (.int 4))) (eC (.int 2)))) (sSeq (sSet 6 (eTup (aCons (eC (.str "call")) (aCons (eOp (dInt gMod) (eOp (dInt gDiv) (eVar 4) (eC (.int 9))) (eC (.int 10000))) (aCons (eTup (aCons (eC (.str "name")) (aCons (eOp dIx (eVar 3) (eC (.int 0))) aNil))) (aCons (eTup (aCons (eC (.str "num")) (aCons (eOp (dInt gMod) (eOp (dInt gDiv) (eVar 4) (eC (.int 5))) (eC (.int 7))) aNil))) aNil))))))
  (sRet (eOp dIx (eL (lDisp (aCons (eTup (aCons (eC (.str "plus")) (aCons (eOp (dInt gMod) (eOp (dInt gDiv) (eVar 4) (eC (.int 7))) (eC (.int 10000))) (aCons (eVar 5) (aCons (eVar 6) aNil))))) (aCons (eTup (aCons (eC (.str "plus")) (aCons (eOp (dInt gMod) (eOp (dInt gDiv) (eVar 4) (eC (.int 7))) (eC (.int 10000))) (aCons (eVar 6) (aCons (eVar 5) aNil))))) aNil)))) (eOp (dInt gMod) (eOp (dInt gDiv) (eVar 4) (eC (.int 4))) (eC (.int 2)))))) sNext)
  (b__law_gone_on_t6 F))
def b__law_gone_on_t4 (F : Fns) : B :=
  (sSeq (sIf (tOf (eOp (dEq 64) (eOp (dInt gMod) (eVar 4) (eC (.int 4))) (eC (.int 1)))) (sRet (eTup (aCons (eC (.str "call")) (aCons (eOp (dInt gMod) (eOp (dInt gDiv) (eVar 4) (eC (.int 8))) (eC (.int 10000))) (aCons (eTup (aCons (eC (.str "name")) (aCons (eOp dIx (eVar 3) (eC (.int 0))) aNil))) (aCons (eVar 5) aNil)))))) sNext)
  (b__law_gone_on_t5 F))
def b__law_gone_on_t3 (F : Fns) : B :=
  (sSeq (sSet 5 (eTup (aCons (eC (.str "call")) (aCons (eOp (dInt gMod) (eOp (dInt gDiv) (eVar 4) (eC (.int 4))) (eC (.int 10000))) (aCons (eTup (aCons (eC (.str "name")) (aCons (eOp dIx (eVar 3) (eC (.int 0))) aNil))) (aCons (eVar 5) aNil))))))
  (b__law_gone_on_t4 F))
def b__law_gone_on_t2 (F : Fns) : B :=
  (sSeq (sIf (tfOr (tOf (eOp (dEq 64) (eOp (dInt gMod) (eVar 4) (eC (.int 4))) (eC (.int 0)))) (tOf (eOp (dCmp fun i j => decide (i < j)) (eVar 2) (eC (.int 3))))) (sRet (eVar 5)) sNext)
  (b__law_gone_on_t3 F))
def b__law_gone_on_t1 (F : Fns) : B :=
  (sSeq (sSet 5 (eCall 4 (F ._law_made) (aCons (eVar 0) (aCons (eVar 1) (aCons (eOp (dInt gSub) (eVar 2) (eOp dMul (eC (.int 2)) (eBi bInt (aCons (eAnd (eOp (dCmp fun i j => decide (i > j)) (eOp (dInt gMod) (eVar 4) (eC (.int 4))) (eC (.int 0))) (eOp (dCmp fun i j => decide (i > j)) (eVar 2) (eC (.int 2)))) aNil)))) (aCons (eVar 3) aNil))))))
  (b__law_gone_on_t2 F))
abbrev b__law_gone_on (F : Fns) : B :=
  (sSeq (sSet 4 (eCall 1 (F ._law_mixed) (aCons (eOp dAdd (eCall 2 (F ._law_cell_at) (aCons (eVar 0) (aCons (eOp (dInt gMod) (eOp dIx (eVar 1) (eC (.int 0))) (eC (.int 60))) aNil))) (eC (.int 104729))) aNil)))
  (b__law_gone_on_t1 F))
def b__law_made_t14 (F : Fns) : B :=
  (sRet (eTup (aCons (eC (.str "plus")) (aCons (eVar 6) (aCons (eCall 4 (F ._law_made) (aCons (eVar 0) (aCons (eVar 1) (aCons (eOp (dInt gSub) (eVar 2) (eC (.int 1))) (aCons (eVar 3) aNil))))) (aCons (eCall 4 (F ._law_made) (aCons (eVar 0) (aCons (eVar 1) (aCons (eOp (dInt gSub) (eVar 2) (eC (.int 1))) (aCons (eVar 3) aNil))))) aNil))))))
def b__law_made_t13 (F : Fns) : B :=
  (sSeq (sIf (tOf (eOp (dEq 64) (eOp (dInt gMod) (eOp (dInt gDiv) (eVar 4) (eC (.int 14))) (eC (.int 7))) (eC (.int 1)))) (sRet (eTup (aCons (eC (.str "call")) (aCons (eVar 6) (aCons (eCall 4 (F ._law_made) (aCons (eVar 0) (aCons (eVar 1) (aCons (eOp (dInt gSub) (eVar 2) (eC (.int 1))) (aCons (eVar 3) aNil))))) (aCons (eCall 4 (F ._law_made) (aCons (eVar 0) (aCons (eVar 1) (aCons (eOp (dInt gSub) (eVar 2) (eC (.int 1))) (aCons (eVar 3) aNil))))) aNil)))))) sNext)
  (b__law_made_t14 F))
def b__law_made_t12 (F : Fns) : B :=
  (sSeq (sIf (tOf (eOp (dCmp fun i j => decide (i < j)) (eVar 5) (eC (.int 12)))) (sRet (eTup (aCons (eC (.str "take")) (aCons (eVar 6) (aCons (eVar 7) (aCons (eCall 4 (F ._law_gone_on) (aCons (eVar 0) (aCons (eVar 1) (aCons (eOp (dInt gSub) (eVar 2) (eC (.int 1))) (aCons (eOp dAdd (eL (lDisp (aCons (eVar 7) aNil))) (eVar 3)) aNil))))) aNil)))))) sNext)
  (b__law_made_t13 F))
def b__law_made_t11 (F : Fns) : B :=
  (sSeq (sIf (tOf (eOp (dCmp fun i j => decide (i < j)) (eVar 5) (eC (.int 10)))) (sRet (eTup (aCons (eC (.str "round")) (aCons (eCall 4 (F ._law_made) (aCons (eVar 0) (aCons (eVar 1) (aCons (eOp (dInt gSub) (eVar 2) (eC (.int 1))) (aCons (eVar 3) aNil))))) aNil)))) sNext)
  (b__law_made_t12 F))
def b__law_made_t10 (F : Fns) : B :=
  (sSeq (sIf (tOf (eOp (dEq 64) (eVar 5) (eC (.int 7)))) (sSeq (sSet 10 (eLM (aLc (iRange1 (aCons (eC (.int 3)) aNil)) (gdName 11) tTrue (eCall 4 (F ._law_made) (aCons (eVar 0) (aCons (eVar 1) (aCons (eOp (dInt gSub) (eVar 2) (eC (.int 1))) (aCons (eVar 3) aNil))))) [11])))
  (sSeq (sIf (tOf (eOp (dEq 64) (eOp (dInt gMod) (eOp (dInt gDiv) (eVar 4) (eC (.int 14))) (eC (.int 2))) (eC (.int 1)))) (sSetIx (eTup (aCons (eC (.str "num")) (aCons (eOp (dInt gSub) (eOp (dInt gMod) (eOp (dInt gDiv) (eVar 4) (eC (.int 28))) (eC (.int 5))) (eC (.int 2))) aNil))) (eVar 10) (eC (.int 0))) sNext)
  (sRet (eTup (aCons (eC (.str "pick")) (aCons (eVar 6) (aCons (eOp dIx (eVar 10) (eC (.int 0))) (aCons (eOp dIx (eVar 10) (eC (.int 1))) (aCons (eOp dIx (eVar 10) (eC (.int 2))) aNil))))))))) sNext)
  (b__law_made_t11 F))
def b__law_made_t9 (F : Fns) : B :=
  (sSeq (sIf (tfAnd (tOf (eOp (dCmp fun i j => decide (i < j)) (eVar 5) (eC (.int 7)))) (tOf (eOp (dNe 64) (eVar 3) (eL (lDisp aNil))))) (sSeq (sSet 9 (eTup (aCons (eC (.str "name")) (aCons (eOp dIx (eVar 3) (eOp (dInt gMod) (eOp (dInt gDiv) (eVar 4) (eC (.int 14))) (eBi bMin (aCons (eC (.int 2)) (aCons (eBi bLen (aCons (eVar 3) aNil)) aNil))))) aNil))))
  (sRet (eTup (aCons (eC (.str "call")) (aCons (eVar 6) (aCons (eVar 9) (aCons (eCall 4 (F ._law_made) (aCons (eVar 0) (aCons (eVar 1) (aCons (eOp (dInt gSub) (eVar 2) (eC (.int 1))) (aCons (eVar 3) aNil))))) aNil))))))) sNext)
  (b__law_made_t10 F))
def b__law_made_t8 (F : Fns) : B :=
  (sSeq (sIf (tOf (eOp (dCmp fun i j => decide (i < j)) (eVar 5) (eC (.int 5)))) (sSeq (sSet 8 (eCall 4 (F ._law_made) (aCons (eVar 0) (aCons (eVar 1) (aCons (eOp dAdd (eOp (dInt gSub) (eVar 2) (eC (.int 2))) (eBi bInt (aCons (eOp (dEq 64) (eVar 2) (eC (.int 1))) aNil))) (aCons (eOp dAdd (eL (lDisp (aCons (eVar 7) aNil))) (eVar 3)) aNil))))))
  (sRet (eTup (aCons (eC (.str "call")) (aCons (eVar 6) (aCons (eTup (aCons (eC (.str "fun")) (aCons (eCall 1 (F ._law_mark_by) (aCons (eOp (dInt gDiv) (eVar 4) (eC (.int 41))) aNil)) (aCons (eVar 7) (aCons (eVar 8) aNil))))) (aCons (eCall 4 (F ._law_made) (aCons (eVar 0) (aCons (eVar 1) (aCons (eOp (dInt gSub) (eVar 2) (eC (.int 1))) (aCons (eVar 3) aNil))))) aNil))))))) sNext)
  (b__law_made_t9 F))
def b__law_made_t7 (F : Fns) : B :=
  (sSeq (sIf (tOf (eOp (dEq 64) (eVar 5) (eC (.int 1)))) (sRet (eTup (aCons (eC (.str "fun")) (aCons (eVar 6) (aCons (eVar 7) (aCons (eCall 4 (F ._law_made) (aCons (eVar 0) (aCons (eVar 1) (aCons (eOp (dInt gSub) (eVar 2) (eC (.int 1))) (aCons (eOp dAdd (eL (lDisp (aCons (eVar 7) aNil))) (eVar 3)) aNil))))) aNil)))))) sNext)
  (b__law_made_t8 F))
def b__law_made_t6 (F : Fns) : B :=
  (sSeq (sIf (tfOr (tOf (eOp (dEq 64) (eVar 2) (eC (.int 0)))) (tfOr (tOf (eOp (dEq 64) (eVar 5) (eC (.int 0)))) (tOf (eOp (dCmp fun i j => decide (i > j)) (eOp dIx (eVar 1) (eC (.int 0))) (eC (.int 22)))))) (sRet (eCall 2 (F ._law_leaf) (aCons (eOp (dInt gDiv) (eVar 4) (eC (.int 14))) (aCons (eVar 3) aNil)))) sNext)
  (b__law_made_t7 F))
def b__law_made_t5 (F : Fns) : B :=
  (sSeq (sIf (tfAnd (tOf (eOp (dNe 64) (eVar 3) (eL (lDisp aNil)))) (tOf (eOp (dEq 64) (eOp (dInt gMod) (eOp (dInt gDiv) (eVar 4) (eC (.int 14))) (eC (.int 4))) (eC (.int 1))))) (sSet 7 (eOp dIx (eVar 3) (eOp (dInt gMod) (eOp (dInt gDiv) (eVar 4) (eC (.int 56))) (eBi bLen (aCons (eVar 3) aNil))))) sNext)
  (b__law_made_t6 F))
def b__law_made_t4 (F : Fns) : B :=
  (sSeq (sSet 7 (eCall 1 (F ._law_name_by) (aCons (eOp (dInt gDiv) (eVar 4) (eC (.int 28))) aNil)))
  (b__law_made_t5 F))
def b__law_made_t3 (F : Fns) : B :=
  (sSeq (sSet 6 (eCall 1 (F ._law_mark_by) (aCons (eOp (dInt gDiv) (eVar 4) (eC (.int 14))) aNil)))
  (b__law_made_t4 F))
def b__law_made_t2 (F : Fns) : B :=
  (sSeq (sSet 5 (eOp (dInt gMod) (eVar 4) (eC (.int 14))))
  (b__law_made_t3 F))
def b__law_made_t1 (F : Fns) : B :=
  (sSeq (sSetIx (eOp dAdd (eOp dIx (eVar 1) (eC (.int 0))) (eC (.int 1))) (eVar 1) (eC (.int 0)))
  (b__law_made_t2 F))
abbrev b__law_made (F : Fns) : B :=
  (sSeq (sSet 4 (eCall 1 (F ._law_mixed) (aCons (eOp dAdd (eCall 2 (F ._law_cell_at) (aCons (eVar 0) (aCons (eOp (dInt gMod) (eOp dIx (eVar 1) (eC (.int 0))) (eC (.int 60))) aNil))) (eOp dMul (eC (.int 7919)) (eOp dIx (eVar 1) (eC (.int 0))))) aNil)))
  (b__law_made_t1 F))
def b__law_piece_t3 (F : Fns) : B :=
  (sRet (eVar 3))
def b__law_piece_t2 (F : Fns) : B :=
  (sSeq (sFor (iRange1 (aCons (eOp dIx (eL (lDisp (aCons (eC (.int 0)) (aCons (eC (.int 0)) (aCons (eC (.int 1)) (aCons (eC (.int 18)) aNil)))))) (eOp (dInt gMod) (eOp (dInt gDiv) (eVar 2) (eC (.int 28))) (eC (.int 4)))) aNil)) (gdName 4) (sSet 3 (eTup (aCons (eC (.str "plus")) (aCons (eCall 1 (F ._law_mark_by) (aCons (eOp dAdd (eVar 2) (eVar 4)) aNil)) (aCons (eTup (aCons (eC (.str "num")) (aCons (eVar 4) aNil))) (aCons (eVar 3) aNil)))))))
  (b__law_piece_t3 F))
def b__law_piece_t1 (F : Fns) : B :=
  (sSeq (sIf (tOf (eOp (dCmp fun i j => decide (i > j)) (eOp (dInt gMod) (eOp (dInt gDiv) (eVar 2) (eC (.int 7))) (eC (.int 4))) (eC (.int 0)))) (sSet 3 (eTup (aCons (eC (.str "round")) (aCons (eVar 3) aNil)))) sNext)
  (b__law_piece_t2 F))
abbrev b__law_piece (F : Fns) : B :=
  (sSeq (sSet 3 (eCall 4 (F ._law_made) (aCons (eVar 0) (aCons (eLM (lDisp (aCons (eVar 1) aNil))) (aCons (eOp dAdd (eC (.int 1)) (eOp (dInt gMod) (eVar 2) (eC (.int 7)))) (aCons (eL (lDisp aNil)) aNil))))))
  (b__law_piece_t1 F))
abbrev b__law_value (F : Fns) : B :=
  (sRet (eOp (dIn false) (eOp dIx (eVar 0) (eC (.int 0))) (eTup (aCons (eC (.str "num")) (aCons (eC (.str "shut")) (aCons (eC (.str "kept")) aNil))))))
abbrev b__law_put (F : Fns) : B :=
  (sSeq (sIf (tOf (eCall 1 (F ._law_value) (aCons (eVar 0) aNil))) (sRet (eVar 0)) sNext)
  (sSeq (sIf (tOf (eOp (dEq 64) (eOp dIx (eVar 0) (eC (.int 0))) (eC (.str "name")))) (sRet (eOp dIx (eL (lDisp (aCons (eVar 0) (aCons (eVar 2) aNil)))) (eBi bInt (aCons (eOp (dEq 64) (eOp dIx (eVar 0) (eC (.int 1))) (eVar 1)) aNil)))) sNext)
  (sSeq (sIf (tOf (eOp (dIn false) (eOp dIx (eVar 0) (eC (.int 0))) (eTup (aCons (eC (.str "fun")) (aCons (eC (.str "take")) aNil))))) (sSeq (sIf (tOf (eOp (dEq 64) (eOp dIx (eVar 0) (eC (.int 2))) (eVar 1))) (sRet (eVar 0)) sNext)
  (sRet (eTup (aCons (eOp dIx (eVar 0) (eC (.int 0))) (aCons (eOp dIx (eVar 0) (eC (.int 1))) (aCons (eOp dIx (eVar 0) (eC (.int 2))) (aCons (eCall 3 (F ._law_put) (aCons (eOp dIx (eVar 0) (eC (.int 3))) (aCons (eVar 1) (aCons (eVar 2) aNil)))) aNil))))))) sNext)
  (sSeq (sIf (tOf (eOp (dEq 64) (eOp dIx (eVar 0) (eC (.int 0))) (eC (.str "round")))) (sRet (eTup (aCons (eC (.str "round")) (aCons (eCall 3 (F ._law_put) (aCons (eOp dIx (eVar 0) (eC (.int 1))) (aCons (eVar 1) (aCons (eVar 2) aNil)))) aNil)))) sNext)
  (sSeq (sSet 3 (eL (aLc (iTupD (eSlice (eVar 0) (ptS (eC (.int 2))) ptN)) (gdName 4) tTrue (eCall 3 (F ._law_put) (aCons (eVar 4) (aCons (eVar 1) (aCons (eVar 2) aNil)))) [4])))
  (sRet (eOp dAdd (eTup (aCons (eOp dIx (eVar 0) (eC (.int 0))) (aCons (eOp dIx (eVar 0) (eC (.int 1))) aNil))) (eBi bTup (aCons (eVar 3) aNil)))))))))
abbrev b__law_inward (F : Fns) : B :=
  (sSeq (sIf (tfAnd (tOf (eOp (dEq 64) (eOp dIx (eVar 0) (eC (.int 0))) (eC (.str "round")))) (tfNot (tOf (eCall 1 (F ._law_value) (aCons (eOp dIx (eVar 0) (eC (.int 1))) aNil))))) (sRet (eC (.int 1))) sNext)
  (sSeq (sIf (tfAnd (tOf (eOp (dIn false) (eOp dIx (eVar 0) (eC (.int 0))) (eTup (aCons (eC (.str "call")) (aCons (eC (.str "plus")) (aCons (eC (.str "pick")) aNil)))))) (tfNot (tOf (eCall 1 (F ._law_value) (aCons (eOp dIx (eVar 0) (eC (.int 2))) aNil))))) (sRet (eC (.int 2))) sNext)
  (sSeq (sIf (tfAnd (tOf (eOp (dIn false) (eOp dIx (eVar 0) (eC (.int 0))) (eTup (aCons (eC (.str "call")) (aCons (eC (.str "plus")) aNil))))) (tfNot (tOf (eCall 1 (F ._law_value) (aCons (eOp dIx (eVar 0) (eC (.int 3))) aNil))))) (sRet (eC (.int 3))) sNext)
  (sRet (eC (.int 0))))))
abbrev b__law_line (F : Fns) : B :=
  (sSeq (sSet 1 (eLM (lDisp (aCons (eTup (aCons (eVar 0) (aCons (eCall 1 (F ._law_inward) (aCons (eVar 0) aNil)) aNil))) aNil))))
  (sSeq (sWhile (tOf (eOp (dCmp fun i j => decide (i > j)) (eOp dIx (eOp dIx (eVar 1) (eNeg (eC (.int 1)))) (eC (.int 1))) (eC (.int 0)))) (sSeq (sSet 2 (eOp dIx (eOp dIx (eOp dIx (eVar 1) (eNeg (eC (.int 1)))) (eC (.int 0))) (eOp dIx (eOp dIx (eVar 1) (eNeg (eC (.int 1)))) (eC (.int 1)))))
  (sExp (eMeth1 kAppend (eVar 1) (eTup (aCons (eVar 2) (aCons (eCall 1 (F ._law_inward) (aCons (eVar 2) aNil)) aNil)))))))
  (sRet (eVar 1))))
abbrev b__law_frame (F : Fns) : B :=
  (sSeq (sIf (tOf (eOp (dEq 64) (eOp dIx (eVar 0) (eC (.int 0))) (eC (.str "round")))) (sRet (eTup (aCons (eC (.str "round")) aNil))) sNext)
  (sSeq (sIf (tOf (eOp (dEq 64) (eOp dIx (eVar 0) (eC (.int 0))) (eC (.str "pick")))) (sRet (eTup (aCons (eC (.str "picker")) (aCons (eOp dIx (eVar 0) (eC (.int 1))) (aCons (eOp dIx (eVar 0) (eC (.int 3))) (aCons (eOp dIx (eVar 0) (eC (.int 4))) aNil)))))) sNext)
  (sSeq (sSet 2 (eOp dIx (eOp dGet (eDi (ddDisp (ppCons (eC (.str "call")) (eL (lDisp (aCons (eC (.str "caller")) (aCons (eC (.str "given")) aNil)))) (ppCons (eC (.str "plus")) (eL (lDisp (aCons (eC (.str "adder")) (aCons (eC (.str "added")) aNil)))) ppNil)))) (eOp dIx (eVar 0) (eC (.int 0)))) (eOp (dInt gSub) (eVar 1) (eC (.int 2)))))
  (sRet (eTup (aCons (eVar 2) (aCons (eOp dIx (eVar 0) (eC (.int 1))) (aCons (eOp dIx (eVar 0) (eOp (dInt gSub) (eC (.int 5)) (eVar 1))) aNil))))))))
abbrev b__law_about (F : Fns) : B :=
  (sSeq (sFor (iSeq (eL (lRev (eVar 0)))) (gdTup 2 (gsCons (gdName 2) (gsCons (gdName 3) gsNil))) (sSet 1 (eOp dAdd (eOp dAdd (eSlice (eVar 2) ptN (ptS (eVar 3))) (eTup (aCons (eVar 1) aNil))) (eSlice (eVar 2) (ptS (eOp dAdd (eVar 3) (eC (.int 1)))) ptN))))
  (sRet (eVar 1)))
abbrev b__law_in_frames (F : Fns) : B :=
  (sSeq (sFor (iTupD (eVar 0)) (gdName 2) (sIf (tfOr (tOf (eOp (dEq 64) (eOp dIx (eVar 2) (eC (.int 0))) (eC (.str "caller")))) (tOf (eOp (dEq 64) (eOp dIx (eVar 2) (eC (.int 0))) (eC (.str "adder"))))) (sSet 1 (eTup (aCons (eOp dGet (eDi (ddDisp (ppCons (eC (.str "caller")) (eC (.str "call")) (ppCons (eC (.str "adder")) (eC (.str "plus")) ppNil)))) (eOp dIx (eVar 2) (eC (.int 0)))) (aCons (eOp dIx (eVar 2) (eC (.int 1))) (aCons (eVar 1) (aCons (eOp dIx (eVar 2) (eC (.int 2))) aNil)))))) (sIf (tfOr (tOf (eOp (dEq 64) (eOp dIx (eVar 2) (eC (.int 0))) (eC (.str "given")))) (tOf (eOp (dEq 64) (eOp dIx (eVar 2) (eC (.int 0))) (eC (.str "added"))))) (sSet 1 (eTup (aCons (eOp dGet (eDi (ddDisp (ppCons (eC (.str "given")) (eC (.str "call")) (ppCons (eC (.str "added")) (eC (.str "plus")) ppNil)))) (eOp dIx (eVar 2) (eC (.int 0)))) (aCons (eOp dIx (eVar 2) (eC (.int 1))) (aCons (eOp dIx (eVar 2) (eC (.int 2))) (aCons (eVar 1) aNil)))))) (sIf (tOf (eOp (dEq 64) (eOp dIx (eVar 2) (eC (.int 0))) (eC (.str "picker")))) (sSet 1 (eTup (aCons (eC (.str "pick")) (aCons (eOp dIx (eVar 2) (eC (.int 1))) (aCons (eVar 1) (aCons (eOp dIx (eVar 2) (eC (.int 2))) (aCons (eOp dIx (eVar 2) (eC (.int 3))) aNil))))))) (sSet 1 (eTup (aCons (eC (.str "round")) (aCons (eVar 1) aNil))))))))
  (sRet (eVar 1)))
abbrev b__law_becomes (F : Fns) : B :=
  (sSeq (sIf (tOf (eOp (dEq 64) (eOp dIx (eVar 0) (eC (.int 0))) (eC (.str "fun")))) (sRet (eTup (aCons (eC (.str "shut")) (aCons (eOp dIx (eVar 0) (eC (.int 1))) (aCons (eOp dIx (eVar 0) (eC (.int 2))) (aCons (eOp dIx (eVar 0) (eC (.int 3))) aNil)))))) sNext)
  (sSeq (sIf (tOf (eOp (dEq 64) (eOp dIx (eVar 0) (eC (.int 0))) (eC (.str "round")))) (sRet (eOp dIx (eVar 0) (eC (.int 1)))) sNext)
  (sSeq (sIf (tfAnd (tOf (eOp (dEq 64) (eOp dIx (eVar 0) (eC (.int 0))) (eC (.str "call")))) (tOf (eOp (dEq 64) (eOp dIx (eOp dIx (eVar 0) (eC (.int 2))) (eC (.int 0))) (eC (.str "shut"))))) (sRet (eCall 3 (F ._law_put) (aCons (eOp dIx (eOp dIx (eVar 0) (eC (.int 2))) (eC (.int 3))) (aCons (eOp dIx (eOp dIx (eVar 0) (eC (.int 2))) (eC (.int 2))) (aCons (eOp dIx (eVar 0) (eC (.int 3))) aNil))))) sNext)
  (sSeq (sIf (tfAnd (tOf (eOp (dEq 64) (eOp dIx (eVar 0) (eC (.int 0))) (eC (.str "call")))) (tOf (eOp (dEq 64) (eOp dIx (eOp dIx (eVar 0) (eC (.int 2))) (eC (.int 0))) (eC (.str "kept"))))) (sRet (eTup (aCons (eC (.str "round")) (aCons (eCall 2 (F ._law_in_frames) (aCons (eOp dIx (eOp dIx (eVar 0) (eC (.int 2))) (eC (.int 2))) (aCons (eOp dIx (eVar 0) (eC (.int 3))) aNil))) aNil)))) sNext)
  (sSeq (sIf (tfAnd (tOf (eOp (dEq 64) (eOp dIx (eVar 0) (eC (.int 0))) (eC (.str "plus")))) (tfAnd (tOf (eOp (dEq 64) (eOp dIx (eOp dIx (eVar 0) (eC (.int 2))) (eC (.int 0))) (eC (.str "num")))) (tOf (eOp (dEq 64) (eOp dIx (eOp dIx (eVar 0) (eC (.int 3))) (eC (.int 0))) (eC (.str "num")))))) (sRet (eTup (aCons (eC (.str "num")) (aCons (eOp dAdd (eOp dIx (eOp dIx (eVar 0) (eC (.int 2))) (eC (.int 1))) (eOp dIx (eOp dIx (eVar 0) (eC (.int 3))) (eC (.int 1)))) aNil)))) sNext)
  (sSeq (sIf (tfAnd (tOf (eOp (dEq 64) (eOp dIx (eVar 0) (eC (.int 0))) (eC (.str "pick")))) (tOf (eOp (dEq 64) (eOp dIx (eOp dIx (eVar 0) (eC (.int 2))) (eC (.int 0))) (eC (.str "num"))))) (sRet (eOp dIx (eVar 0) (eOp dAdd (eC (.int 3)) (eBi bInt (aCons (eOp (dNe 64) (eOp dIx (eOp dIx (eVar 0) (eC (.int 2))) (eC (.int 1))) (eC (.int 0))) aNil))))) sNext)
  (sRet (eC .non))))))))
def b__law_step_t9 (F : Fns) : B :=
  (sRet (eTup (aCons (eC (.str "step")) (aCons (eCall 2 (F ._law_about) (aCons (eSlice (eVar 1) ptN (ptS (eOp dAdd (eOp dIx (eVar 3) (eNeg (eC (.int 1)))) (eC (.int 1))))) (aCons (eCall 3 (F ._law_put) (aCons (eOp dIx (eVar 2) (eC (.int 3))) (aCons (eOp dIx (eVar 2) (eC (.int 2))) (aCons (eVar 5) aNil)))) aNil))) aNil))))
def b__law_step_t8 (F : Fns) : B :=
  (sSeq (sSet 5 (eTup (aCons (eC (.str "kept")) (aCons (eOp dIx (eVar 2) (eC (.int 1))) (aCons (eBi bTup (aCons (eL (lRev (eVar 4))) aNil)) aNil)))))
  (b__law_step_t9 F))
def b__law_step_t7 (F : Fns) : B :=
  (sSeq (sSet 4 (eL (aLc (iSeq (eSlice (eVar 1) (ptS (eOp dAdd (eOp dIx (eVar 3) (eNeg (eC (.int 1)))) (eC (.int 1)))) ptN)) (gdName 8) tTrue (eCall 2 (F ._law_frame) (aCons (eOp dIx (eVar 8) (eC (.int 0))) (aCons (eOp dIx (eVar 8) (eC (.int 1))) aNil))) [8])))
  (b__law_step_t8 F))
def b__law_step_t6 (F : Fns) : B :=
  (sSeq (sIf (tOf (eOp (dEq 64) (eVar 3) (eL (lDisp aNil)))) (sRet (eTup (aCons (eC (.str "stuck")) (aCons (eOp dIx (eVar 2) (eC (.int 1))) aNil)))) sNext)
  (b__law_step_t7 F))
def b__law_step_t5 (F : Fns) : B :=
  (sSeq (sSet 3 (eL (aLc (iRange1 (aCons (eBi bLen (aCons (eVar 1) aNil)) aNil)) (gdName 7) (tOf (eOp (dEq 64) (eOp dIx (eOp dIx (eOp dIx (eVar 1) (eVar 7)) (eC (.int 0))) (eC (.int 0))) (eC (.str "round")))) (eVar 7) [7])))
  (b__law_step_t6 F))
def b__law_step_t4 (F : Fns) : B :=
  (sSeq (sIf (tOf (eOp (dNe 64) (eOp dIx (eVar 2) (eC (.int 0))) (eC (.str "take")))) (sSeq (sSet 6 (eCall 1 (F ._law_becomes) (aCons (eVar 2) aNil)))
  (sSeq (sIf (tOf (eOp (dIsN false) (eVar 6) (eC .non))) (sRet (eTup (aCons (eC (.str "stuck")) (aCons (eOp dIx (eVar 2) (eC (.int 1))) aNil)))) sNext)
  (sRet (eTup (aCons (eC (.str "step")) (aCons (eCall 2 (F ._law_about) (aCons (eVar 1) (aCons (eVar 6) aNil))) aNil)))))) sNext)
  (b__law_step_t5 F))
def b__law_step_t3 (F : Fns) : B :=
  (sSeq (sSet 1 (eSlice (eVar 1) ptN (ptS (eNeg (eC (.int 1))))))
  (b__law_step_t4 F))
def b__law_step_t2 (F : Fns) : B :=
  (sSeq (sSet 2 (eOp dIx (eOp dIx (eVar 1) (eNeg (eC (.int 1)))) (eC (.int 0))))
  (b__law_step_t3 F))
def b__law_step_t1 (F : Fns) : B :=
  (sSeq (sSet 1 (eCall 1 (F ._law_line) (aCons (eVar 0) aNil)))
  (b__law_step_t2 F))
abbrev b__law_step (F : Fns) : B :=
  (sSeq (sIf (tOf (eCall 1 (F ._law_value) (aCons (eVar 0) aNil))) (sRet (eTup (aCons (eC (.str "value")) (aCons (eVar 0) aNil)))) sNext)
  (b__law_step_t1 F))
def b_law_t4 (F : Fns) : B :=
  (sRet (eC (.bl true)))
def b_law_t3 (F : Fns) : B :=
  (sSeq (sFor (iRange1 (aCons (eOp dAdd (eC (.int 1)) (eOp (dInt gMod) (eCall 2 (F ._law_cell_at) (aCons (eVar 0) (aCons (eC (.int 1)) aNil))) (eC (.int 20)))) aNil)) (gdName 3) (sSeq (sAsg (eCall 1 (F ._law_step) (aCons (eVar 2) aNil)) (gdTup 2 (gsCons (gdName 6) (gsCons (gdName 7) gsNil))))
  (sSeq (sSet 8 (eCall 1 (F .stepped) (aCons (eVar 2) aNil)))
  (sSeq (sIf (tfOr (tfNot (tOf (eIsi "tuple" (eVar 8)))) (tOf (eOp (dNe 3800) (eVar 8) (eTup (aCons (eVar 6) (aCons (eVar 7) aNil)))))) (sRet (eC (.bl false))) sNext)
  (sIf (tOf (eOp (dEq 3800) (eVar 6) (eC (.str "step")))) (sSet 2 (eVar 7)) sNext)))))
  (b_law_t4 F))
def b_law_t2 (F : Fns) : B :=
  (sSeq (sIf (tOf (eOp (dEq 3800) (eOp (dInt gMod) (eOp (dInt gDiv) (eVar 1) (eC (.int 112))) (eC (.int 6))) (eC (.int 1)))) (sSeq (sSet 4 (eLM (lDisp (aCons (eTup (aCons (eC (.str "adder")) (aCons (eC (.int 3)) (aCons (eTup (aCons (eC (.str "num")) (aCons (eOp (dInt gMod) (eVar 1) (eC (.int 7))) aNil))) aNil)))) (aCons (eTup (aCons (eC (.str "round")) aNil)) (aCons (eTup (aCons (eC (.str "given")) (aCons (eC (.int 4)) (aCons (eTup (aCons (eC (.str "shut")) (aCons (eC (.int 5)) (aCons (eC (.str "x")) (aCons (eTup (aCons (eC (.str "name")) (aCons (eC (.str "x")) aNil))) aNil))))) aNil)))) aNil))))))
  (sSeq (sExp (eMeth1 kAppend (eVar 4) (eTup (aCons (eC (.str "round")) aNil))))
  (sSeq (sSet 5 (eTup (aCons (eC (.str "kept")) (aCons (eC (.int 6)) (aCons (eBi bTup (aCons (eOp dAdd (eSlice (eVar 4) ptN (ptS (eOp (dInt gMod) (eOp (dInt gDiv) (eVar 1) (eC (.int 672))) (eC (.int 5))))) (eL (lDisp (aCons (eTup (aCons (eC (.str "picker")) (aCons (eC (.int 7)) (aCons (eVar 2) (aCons (eTup (aCons (eC (.str "num")) (aCons (eC (.int 2)) aNil))) aNil))))) aNil)))) aNil)) aNil)))))
  (sSet 2 (eTup (aCons (eC (.str "plus")) (aCons (eC (.int 8)) (aCons (eTup (aCons (eC (.str "call")) (aCons (eC (.int 9)) (aCons (eVar 5) (aCons (eTup (aCons (eC (.str "num")) (aCons (eOp (dInt gSub) (eOp (dInt gMod) (eVar 1) (eC (.int 5))) (eC (.int 2))) aNil))) aNil))))) (aCons (eTup (aCons (eC (.str "num")) (aCons (eC (.int 3)) aNil))) aNil))))))))) sNext)
  (b_law_t3 F))
def b_law_t1 (F : Fns) : B :=
  (sSeq (sSet 2 (eCall 3 (F ._law_piece) (aCons (eVar 0) (aCons (eC (.int 2)) (aCons (eVar 1) aNil)))))
  (b_law_t2 F))
abbrev b_law (F : Fns) : B :=
  (sSeq (sSet 1 (eCall 1 (F ._law_mixed) (aCons (eCall 2 (F ._law_cell_at) (aCons (eVar 0) (aCons (eC (.int 0)) aNil))) aNil)))
  (b_law_t1 F))
def bodies (F : Fns) : Nm → Fn
  | .is_value => gcFn (fnD 1 (b_is_value F))
  | .put_in => gcFn (fnD 4 (b_put_in F))
  | .inner_of => gcFn (fnD 3 (b_inner_of F))
  | .parted => gcFn (fnD 3 (b_parted F))
  | .wrapped => gcFn (fnD 2 (b_wrapped F))
  | .plugged => gcFn (fnD 3 (b_plugged F))
  | .to_round => gcFn (fnD 3 (b_to_round F))
  | .called => gcFn (fnD 1 (b_called F))
  | .done_here => gcFn (fnD 1 (b_done_here F))
  | .stepped => gcFn (fnD 6 (b_stepped F))
  | ._law_cell_at => gcFn (fnD 2 (b__law_cell_at F))
  | ._law_mixed => gcFn (fnD 2 (b__law_mixed F))
  | ._law_name_by => gcFn (fnD 6 (b__law_name_by F))
  | ._law_mark_by => gcFn (fnD 1 (b__law_mark_by F))
  | ._law_leaf => gcFn (fnD 2 (b__law_leaf F))
  | ._law_gone_on => gcFn (fnD 7 (b__law_gone_on F))
  | ._law_made => gcFn (fnD 12 (b__law_made F))
  | ._law_piece => gcFn (fnD 5 (b__law_piece F))
  | ._law_value => gcFn (fnD 1 (b__law_value F))
  | ._law_put => gcFn (fnD 5 (b__law_put F))
  | ._law_inward => gcFn (fnD 1 (b__law_inward F))
  | ._law_line => gcFn (fnD 3 (b__law_line F))
  | ._law_frame => gcFn (fnD 3 (b__law_frame F))
  | ._law_about => gcFn (fnD 4 (b__law_about F))
  | ._law_in_frames => gcFn (fnD 3 (b__law_in_frames F))
  | ._law_becomes => gcFn (fnD 1 (b__law_becomes F))
  | ._law_step => gcFn (fnD 9 (b__law_step F))
/-- the defs, by the calls that are left -/
def Fk : Nat → Fns
  | 0 => fun _ _ _ => none
  | k + 1 => bodies (Fk k)
abbrev nmS : Nm → Str
  | .is_value => "is_value"
  | .put_in => "put_in"
  | .inner_of => "inner_of"
  | .parted => "parted"
  | .wrapped => "wrapped"
  | .plugged => "plugged"
  | .to_round => "to_round"
  | .called => "called"
  | .done_here => "done_here"
  | .stepped => "stepped"
  | ._law_cell_at => "_law_cell_at"
  | ._law_mixed => "_law_mixed"
  | ._law_name_by => "_law_name_by"
  | ._law_mark_by => "_law_mark_by"
  | ._law_leaf => "_law_leaf"
  | ._law_gone_on => "_law_gone_on"
  | ._law_made => "_law_made"
  | ._law_piece => "_law_piece"
  | ._law_value => "_law_value"
  | ._law_put => "_law_put"
  | ._law_inward => "_law_inward"
  | ._law_line => "_law_line"
  | ._law_frame => "_law_frame"
  | ._law_about => "_law_about"
  | ._law_in_frames => "_law_in_frames"
  | ._law_becomes => "_law_becomes"
  | ._law_step => "_law_step"
abbrev nmA : Nm → Nat
  | .is_value => 1
  | .put_in => 3
  | .inner_of => 1
  | .parted => 1
  | .wrapped => 2
  | .plugged => 2
  | .to_round => 1
  | .called => 1
  | .done_here => 1
  | .stepped => 1
  | ._law_cell_at => 2
  | ._law_mixed => 1
  | ._law_name_by => 1
  | ._law_mark_by => 1
  | ._law_leaf => 2
  | ._law_gone_on => 4
  | ._law_made => 4
  | ._law_piece => 3
  | ._law_value => 1
  | ._law_put => 3
  | ._law_inward => 1
  | ._law_line => 1
  | ._law_frame => 2
  | ._law_about => 2
  | ._law_in_frames => 2
  | ._law_becomes => 1
  | ._law_step => 1
def top (i : Nat) : Stmt := PySem.Challenge.pw_cutback_k03_one_step.main.body.getD i (.Pass ⟨0, 0, 0, 0⟩)
abbrev s_is_value : Stmt := top 1
abbrev s_put_in : Stmt := top 2
abbrev s_inner_of : Stmt := top 3
abbrev s_parted : Stmt := top 4
abbrev s_wrapped : Stmt := top 5
abbrev s_plugged : Stmt := top 6
abbrev s_to_round : Stmt := top 7
abbrev s_called : Stmt := top 8
abbrev s_done_here : Stmt := top 9
abbrev s_stepped : Stmt := top 10
abbrev s__law_cell_at : Stmt := top 12
abbrev s__law_mixed : Stmt := top 13
abbrev s__law_name_by : Stmt := top 14
abbrev s__law_mark_by : Stmt := top 15
abbrev s__law_leaf : Stmt := top 16
abbrev s__law_gone_on : Stmt := top 17
abbrev s__law_made : Stmt := top 18
abbrev s__law_piece : Stmt := top 19
abbrev s__law_value : Stmt := top 20
abbrev s__law_put : Stmt := top 21
abbrev s__law_inward : Stmt := top 22
abbrev s__law_line : Stmt := top 23
abbrev s__law_frame : Stmt := top 24
abbrev s__law_about : Stmt := top 25
abbrev s__law_in_frames : Stmt := top 26
abbrev s__law_becomes : Stmt := top 27
abbrev s__law_step : Stmt := top 28
abbrev s_law : Stmt := top 29
theorem sc_is_value : FnScope ["piece"] ["piece"] (defScope s_is_value) := ⟨rfl, rfl, rfl, by decide +kernel, rfl, by decide +kernel, by decide +kernel⟩
theorem sc_put_in : FnScope ["piece", "name", "value", "part"] ["piece", "name", "value"] (defScope s_put_in) := ⟨rfl, rfl, rfl, by decide +kernel, rfl, by decide +kernel, by decide +kernel⟩
theorem sc_inner_of : FnScope ["piece", "word", "names"] ["piece"] (defScope s_inner_of) := ⟨rfl, rfl, rfl, by decide +kernel, rfl, by decide +kernel, by decide +kernel⟩
theorem sc_parted : FnScope ["piece", "frames", "inner"] ["piece"] (defScope s_parted) := ⟨rfl, rfl, rfl, by decide +kernel, rfl, by decide +kernel, by decide +kernel⟩
theorem sc_wrapped : FnScope ["frame", "piece"] ["frame", "piece"] (defScope s_wrapped) := ⟨rfl, rfl, rfl, by decide +kernel, rfl, by decide +kernel, by decide +kernel⟩
theorem sc_plugged : FnScope ["frames", "piece", "frame"] ["frames", "piece"] (defScope s_plugged) := ⟨rfl, rfl, rfl, by decide +kernel, rfl, by decide +kernel, by decide +kernel⟩
theorem sc_to_round : FnScope ["frames", "at", "frame"] ["frames"] (defScope s_to_round) := ⟨rfl, rfl, rfl, by decide +kernel, rfl, by decide +kernel, by decide +kernel⟩
theorem sc_called : FnScope ["here"] ["here"] (defScope s_called) := ⟨rfl, rfl, rfl, by decide +kernel, rfl, by decide +kernel, by decide +kernel⟩
theorem sc_done_here : FnScope ["here"] ["here"] (defScope s_done_here) := ⟨rfl, rfl, rfl, by decide +kernel, rfl, by decide +kernel, by decide +kernel⟩
theorem sc_stepped : FnScope ["piece", "frames", "here", "new", "many", "kept"] ["piece"] (defScope s_stepped) := ⟨rfl, rfl, rfl, by decide +kernel, rfl, by decide +kernel, by decide +kernel⟩
theorem sc__law_cell_at : FnScope ["_law_script", "_law_k"] ["_law_script", "_law_k"] (defScope s__law_cell_at) := ⟨rfl, rfl, rfl, by decide +kernel, rfl, by decide +kernel, by decide +kernel⟩
theorem sc__law_mixed : FnScope ["_law_number", "_law_first"] ["_law_number"] (defScope s__law_mixed) := ⟨rfl, rfl, rfl, by decide +kernel, rfl, by decide +kernel, by decide +kernel⟩
theorem sc__law_name_by : FnScope ["_law_mix", "_law_some", "_law_size", "_law_row", "_law_at", "_law_k"] ["_law_mix"] (defScope s__law_name_by) := ⟨rfl, rfl, rfl, by decide +kernel, rfl, by decide +kernel, by decide +kernel⟩
theorem sc__law_mark_by : FnScope ["_law_mix"] ["_law_mix"] (defScope s__law_mark_by) := ⟨rfl, rfl, rfl, by decide +kernel, rfl, by decide +kernel, by decide +kernel⟩
theorem sc__law_leaf : FnScope ["_law_mix", "_law_scope"] ["_law_mix", "_law_scope"] (defScope s__law_leaf) := ⟨rfl, rfl, rfl, by decide +kernel, rfl, by decide +kernel, by decide +kernel⟩
theorem sc__law_gone_on : FnScope ["_law_script", "_law_state", "_law_deep", "_law_scope", "_law_mix", "_law_inner", "_law_other"] ["_law_script", "_law_state", "_law_deep", "_law_scope"] (defScope s__law_gone_on) := ⟨rfl, rfl, rfl, by decide +kernel, rfl, by decide +kernel, by decide +kernel⟩
theorem sc__law_made : FnScope ["_law_script", "_law_state", "_law_deep", "_law_scope", "_law_mix", "_law_way", "_law_mark", "_law_name", "_law_body", "_law_first", "_law_parts", "_law_k"] ["_law_script", "_law_state", "_law_deep", "_law_scope"] (defScope s__law_made) := ⟨rfl, rfl, rfl, by decide +kernel, rfl, by decide +kernel, by decide +kernel⟩
theorem sc__law_piece : FnScope ["_law_script", "_law_first", "_law_cell", "_law_piece_here", "_law_k"] ["_law_script", "_law_first", "_law_cell"] (defScope s__law_piece) := ⟨rfl, rfl, rfl, by decide +kernel, rfl, by decide +kernel, by decide +kernel⟩
theorem sc__law_value : FnScope ["_law_piece_here"] ["_law_piece_here"] (defScope s__law_value) := ⟨rfl, rfl, rfl, by decide +kernel, rfl, by decide +kernel, by decide +kernel⟩
theorem sc__law_put : FnScope ["_law_piece_here", "_law_name", "_law_value_here", "_law_parts", "_law_part"] ["_law_piece_here", "_law_name", "_law_value_here"] (defScope s__law_put) := ⟨rfl, rfl, rfl, by decide +kernel, rfl, by decide +kernel, by decide +kernel⟩
theorem sc__law_inward : FnScope ["_law_piece_here"] ["_law_piece_here"] (defScope s__law_inward) := ⟨rfl, rfl, rfl, by decide +kernel, rfl, by decide +kernel, by decide +kernel⟩
theorem sc__law_line : FnScope ["_law_piece_here", "_law_line_here", "_law_inner"] ["_law_piece_here"] (defScope s__law_line) := ⟨rfl, rfl, rfl, by decide +kernel, rfl, by decide +kernel, by decide +kernel⟩
theorem sc__law_frame : FnScope ["_law_piece_here", "_law_k", "_law_word"] ["_law_piece_here", "_law_k"] (defScope s__law_frame) := ⟨rfl, rfl, rfl, by decide +kernel, rfl, by decide +kernel, by decide +kernel⟩
theorem sc__law_about : FnScope ["_law_line_here", "_law_inner", "_law_piece_here", "_law_k"] ["_law_line_here", "_law_inner"] (defScope s__law_about) := ⟨rfl, rfl, rfl, by decide +kernel, rfl, by decide +kernel, by decide +kernel⟩
theorem sc__law_in_frames : FnScope ["_law_frames", "_law_inner", "_law_frame_here"] ["_law_frames", "_law_inner"] (defScope s__law_in_frames) := ⟨rfl, rfl, rfl, by decide +kernel, rfl, by decide +kernel, by decide +kernel⟩
theorem sc__law_becomes : FnScope ["_law_here"] ["_law_here"] (defScope s__law_becomes) := ⟨rfl, rfl, rfl, by decide +kernel, rfl, by decide +kernel, by decide +kernel⟩
theorem sc__law_step : FnScope ["_law_piece_here", "_law_line_here", "_law_here", "_law_rounds", "_law_frames", "_law_kept", "_law_new", "_law_k", "_law_row"] ["_law_piece_here"] (defScope s__law_step) := ⟨rfl, rfl, rfl, by decide +kernel, rfl, by decide +kernel, by decide +kernel⟩
theorem sc_law : FnScope ["_law_script", "_law_cell", "_law_piece_here", "_law_k", "_law_frames", "_law_kept", "_law_word", "_law_thing", "_law_found"] ["_law_script"] (defScope s_law) := ⟨rfl, rfl, rfl, by decide +kernel, rfl, by decide +kernel, by decide +kernel⟩
section
variable {P : Program} {w : World} {K : PySem.W.Frag} {mg : Str → Option Value} {base : Heap} {C : Addr}
structure Mb (mg : Str → Option Value) : Prop where
  enumerate : mg "enumerate" = none
  int : mg "int" = none
  isinstance : mg "isinstance" = none
  len : mg "len" = none
  min : mg "min" = none
  range : mg "range" = none
  tuple : mg "tuple" = none
set_option maxHeartbeats 4000000 in
theorem ok_is_value {k : Nat} {f : Addr} {fd : FuncData} {F : Fns} (hF : L2.Fun K "is_value" "is_value" s_is_value f fd) (hC : ∀ n, Cal P w K mg base C k (nmS n) (nmA n) (F n)) (mb : Mb mg) : FnOk P w K mg base CX0 (k + 1) f fd ["piece"] (spF C K 1 (fnD 1 (b_is_value F))) := by
  refine fn_ok hF sc_is_value rfl fun cdv A outer s H E hr => ?_
  have nd := sc_is_value.nd
  have hu := hr.units
  have hu1 := hu_of hr
  exact ⟨_, (rss_one (rs_ret (re_or (re_c (rc_eq (L := 64) hu (re_ix (re_var 0) re_int) re_str)) (re_or (re_c (rc_eq (L := 64) hu (re_ix (re_var 0) re_int) re_str)) (re_one (re_c (rc_eq (L := 64) hu (re_ix (re_var 0) re_int) re_str)))))))⟩
set_option maxHeartbeats 4000000 in
theorem ok_put_in {k : Nat} {f : Addr} {fd : FuncData} {F : Fns} (hF : L2.Fun K "put_in" "put_in" s_put_in f fd) (hC : ∀ n, Cal P w K mg base C k (nmS n) (nmA n) (F n)) (mb : Mb mg) : FnOk P w K mg base CX0 (k + 1) f fd ["piece", "name", "value"] (spF C K 3 (fnD 4 (b_put_in F))) := by
  refine fn_ok hF sc_put_in rfl fun cdv A outer s H E hr => ?_
  have nd := sc_put_in.nd
  have hu := hr.units
  have hu1 := hu_of hr
  have mb_tuple := mb.tuple
  have c_is_value : Cal P w K mg base C k "is_value" 1 (F .is_value) := hC .is_value
  have c_put_in : Cal P w K mg base C k "put_in" 3 (F .put_in) := hC .put_in
  exact ⟨_, (rss_cons (rs_if (rt_val (re_call c_is_value hr rfl (ra_cons (re_var 0) ra_nil))) (rss_one (rs_ret (re_var 0))) rss_nil)
    (rss_cons (rs_if (rt_c (rc_eq (L := 64) hu (re_ix (re_var 0) re_int) re_str)) (rss_one (rs_ret (re_if (rt_c (rc_eq (L := 64) hu (re_ix (re_var 0) re_int) (re_var 1))) (re_var 2) (re_var 0)))) rss_nil)
    (rss_cons (rs_if (rt_c (rc_eq (L := 64) hu (re_ix (re_var 0) re_int) re_str)) (rss_one (rs_ret (re_tup (ra_cons re_str (ra_cons (re_call c_put_in hr rfl (ra_cons (re_ix (re_var 0) re_int) (ra_cons (re_var 1) (ra_cons (re_var 2) ra_nil)))) ra_nil))))) rss_nil)
    (rss_cons (rs_if (rt_w (rw_or (rt_c (rc_eq (L := 64) hu (re_ix (re_var 0) re_int) re_str)) (rw_or1 (rt_c (rc_eq (L := 64) hu (re_ix (re_var 0) re_int) re_str))))) (rss_cons (rs_if (rt_c (rc_eq (L := 64) hu (re_ix (re_var 0) re_int) (re_var 1))) (rss_one (rs_ret (re_var 0))) rss_nil)
    (rss_one (rs_ret (re_add (re_slice (re_var 0) rp_none (rp_some re_int)) (re_tup (ra_cons (re_call c_put_in hr rfl (ra_cons (re_ix (re_var 0) re_int) (ra_cons (re_var 1) (ra_cons (re_var 2) ra_nil)))) ra_nil)))))) rss_nil)
    (rss_one (rs_ret (re_add (re_slice (re_var 0) rp_none (rp_some re_int)) (re_callTy call_tuple_of s_tuple rfl mb_tuple (by decide +kernel) (ra_cons (re_L (rl_lc rfl nd (own := [("part", 3)]) (ri_tup (re_slice (re_var 0) (rp_some re_int) rp_none)) (RB.mk (own := [("part", 3)]) (blkOk_by (own := [("part", 3)]) (N := ["piece", "name", "value", "part"]) (sc := defScope s_put_in) (by decide +kernel)) (fun _ _ _ _ _ => ⟨_, (rg_name (vs := [3]) 3 (by decide) nd)⟩) (fun _ _ _ _ _ => ⟨_, rts_nil⟩) (fun _ _ _ _ _ => ⟨_, (re_call c_put_in hr rfl (ra_cons (re_var 3) (ra_cons (re_var 1) (ra_cons (re_var 2) ra_nil))))⟩)))) ra_nil)))))))))⟩
set_option maxHeartbeats 4000000 in
theorem ok_inner_of {k : Nat} {f : Addr} {fd : FuncData} {F : Fns} (hF : L2.Fun K "inner_of" "inner_of" s_inner_of f fd) (hC : ∀ n, Cal P w K mg base C k (nmS n) (nmA n) (F n)) (mb : Mb mg) : FnOk P w K mg base CX0 (k + 1) f fd ["piece"] (spF C K 1 (fnD 3 (b_inner_of F))) := by
  refine fn_ok hF sc_inner_of rfl fun cdv A outer s H E hr => ?_
  have nd := sc_inner_of.nd
  have hu := hr.units
  have hu1 := hu_of hr
  have c_is_value : Cal P w K mg base C k "is_value" 1 (F .is_value) := hC .is_value
  exact ⟨_, (rss_cons (rs_set 1 nd (re_ix (re_var 0) re_int))
    (rss_cons (rs_if (rt_w (rw_and (rt_c (rc_eq (L := 64) hu (re_var 1) re_str)) (rw_and1 (rt_not (rt_val (re_call c_is_value hr rfl (ra_cons (re_ix (re_var 0) re_int) ra_nil))))))) (rss_one (rs_ret (re_tup (ra_cons (re_tup (ra_cons re_str ra_nil)) (ra_cons (re_ix (re_var 0) re_int) ra_nil))))) rss_nil)
    (rss_cons (rs_if (rt_w (rw_and (rt_c (rc_eq (L := 64) hu (re_var 1) re_str)) (rw_and1 (rt_not (rt_val (re_call c_is_value hr rfl (ra_cons (re_ix (re_var 0) re_int) ra_nil))))))) (rss_one (rs_ret (re_tup (ra_cons (re_tup (ra_cons re_str (ra_cons (re_ix (re_var 0) re_int) (ra_cons (re_ix (re_var 0) re_int) (ra_cons (re_ix (re_var 0) re_int) ra_nil))))) (ra_cons (re_ix (re_var 0) re_int) ra_nil))))) rss_nil)
    (rss_cons (rs_if (rt_w (rw_or (rt_c (rc_eq (L := 64) hu (re_var 1) re_str)) (rw_or1 (rt_c (rc_eq (L := 64) hu (re_var 1) re_str))))) (rss_cons (rs_set 2 nd (re_if (rt_c (rc_eq (L := 64) hu (re_var 1) re_str)) (re_tup (ra_cons re_str (ra_cons re_str ra_nil))) (re_tup (ra_cons re_str (ra_cons re_str ra_nil)))))
    (rss_cons (rs_if (rt_not (rt_val (re_call c_is_value hr rfl (ra_cons (re_ix (re_var 0) re_int) ra_nil)))) (rss_one (rs_ret (re_tup (ra_cons (re_tup (ra_cons (re_ix (re_var 2) re_int) (ra_cons (re_ix (re_var 0) re_int) (ra_cons (re_ix (re_var 0) re_int) ra_nil)))) (ra_cons (re_ix (re_var 0) re_int) ra_nil))))) rss_nil)
    (rss_one (rs_if (rt_not (rt_val (re_call c_is_value hr rfl (ra_cons (re_ix (re_var 0) re_int) ra_nil)))) (rss_one (rs_ret (re_tup (ra_cons (re_tup (ra_cons (re_ix (re_var 2) re_int) (ra_cons (re_ix (re_var 0) re_int) (ra_cons (re_ix (re_var 0) re_int) ra_nil)))) (ra_cons (re_ix (re_var 0) re_int) ra_nil))))) rss_nil)))) rss_nil)
    (rss_one (rs_ret re_non))))))⟩
set_option maxHeartbeats 4000000 in
theorem ok_parted {k : Nat} {f : Addr} {fd : FuncData} {F : Fns} (hF : L2.Fun K "parted" "parted" s_parted f fd) (hC : ∀ n, Cal P w K mg base C k (nmS n) (nmA n) (F n)) (mb : Mb mg) : FnOk P w K mg base CX0 (k + 1) f fd ["piece"] (spF C K 1 (fnD 3 (b_parted F))) := by
  refine fn_ok hF sc_parted rfl fun cdv A outer s H E hr => ?_
  have nd := sc_parted.nd
  have hu := hr.units
  have hu1 := hu_of hr
  have mb_tuple := mb.tuple
  have c_inner_of : Cal P w K mg base C k "inner_of" 1 (F .inner_of) := hC .inner_of
  exact ⟨_, (rss_cons (rs_set 1 nd (re_LM (rl_lst ra_nil)))
    (rss_cons (rs_set 2 nd (re_call c_inner_of hr rfl (ra_cons (re_var 0) ra_nil)))
    (rss_cons (rs_while PassesOwn.never (rt_c (rc_isnot (re_var 2) re_non)) (rss_cons (rs_expr (re_append (fun h1 h2 => pe_bm PySem.F.plainAttrs_list PySem.F.slot_list_append PySem.F.type_list_append mt_append h1 h2) (re_var 1) (re_ix (re_var 2) re_int)))
    (rss_cons (rs_set 0 nd (re_ix (re_var 2) re_int))
    (rss_one (rs_set 2 nd (re_call c_inner_of hr rfl (ra_cons (re_var 0) ra_nil)))))))
    (rss_cons (rs_expr (re_reverse (fun h1 => pe_bm0 PySem.F.plainAttrs_list PySem.F.slot_list_reverse PySem.F.type_list_reverse mt_reverse h1) (re_var 1)))
    (rss_one (rs_ret (re_tup (ra_cons (re_callTy call_tuple_of s_tuple rfl mb_tuple (by decide +kernel) (ra_cons (re_var 1) ra_nil)) (ra_cons (re_var 0) ra_nil)))))))))⟩
set_option maxHeartbeats 4000000 in
theorem ok_wrapped {k : Nat} {f : Addr} {fd : FuncData} {F : Fns} (hF : L2.Fun K "wrapped" "wrapped" s_wrapped f fd) (hC : ∀ n, Cal P w K mg base C k (nmS n) (nmA n) (F n)) (mb : Mb mg) : FnOk P w K mg base CX0 (k + 1) f fd ["frame", "piece"] (spF C K 2 (fnD 2 (b_wrapped F))) := by
  refine fn_ok hF sc_wrapped rfl fun cdv A outer s H E hr => ?_
  have nd := sc_wrapped.nd
  have hu := hr.units
  have hu1 := hu_of hr
  exact ⟨_, (rss_cons (rs_if (rt_c (rc_eq (L := 64) hu (re_ix (re_var 0) re_int) re_str)) (rss_one (rs_ret (re_tup (ra_cons re_str (ra_cons (re_ix (re_var 0) re_int) (ra_cons (re_var 1) (ra_cons (re_ix (re_var 0) re_int) ra_nil))))))) rss_nil)
    (rss_cons (rs_if (rt_c (rc_eq (L := 64) hu (re_ix (re_var 0) re_int) re_str)) (rss_one (rs_ret (re_tup (ra_cons re_str (ra_cons (re_ix (re_var 0) re_int) (ra_cons (re_ix (re_var 0) re_int) (ra_cons (re_var 1) ra_nil))))))) rss_nil)
    (rss_cons (rs_if (rt_c (rc_eq (L := 64) hu (re_ix (re_var 0) re_int) re_str)) (rss_one (rs_ret (re_tup (ra_cons re_str (ra_cons (re_ix (re_var 0) re_int) (ra_cons (re_var 1) (ra_cons (re_ix (re_var 0) re_int) ra_nil))))))) rss_nil)
    (rss_cons (rs_if (rt_c (rc_eq (L := 64) hu (re_ix (re_var 0) re_int) re_str)) (rss_one (rs_ret (re_tup (ra_cons re_str (ra_cons (re_ix (re_var 0) re_int) (ra_cons (re_ix (re_var 0) re_int) (ra_cons (re_var 1) ra_nil))))))) rss_nil)
    (rss_cons (rs_if (rt_c (rc_eq (L := 64) hu (re_ix (re_var 0) re_int) re_str)) (rss_one (rs_ret (re_tup (ra_cons re_str (ra_cons (re_ix (re_var 0) re_int) (ra_cons (re_var 1) (ra_cons (re_ix (re_var 0) re_int) (ra_cons (re_ix (re_var 0) re_int) ra_nil)))))))) rss_nil)
    (rss_one (rs_ret (re_tup (ra_cons re_str (ra_cons (re_var 1) ra_nil))))))))))⟩
set_option maxHeartbeats 4000000 in
theorem ok_plugged {k : Nat} {f : Addr} {fd : FuncData} {F : Fns} (hF : L2.Fun K "plugged" "plugged" s_plugged f fd) (hC : ∀ n, Cal P w K mg base C k (nmS n) (nmA n) (F n)) (mb : Mb mg) : FnOk P w K mg base CX0 (k + 1) f fd ["frames", "piece"] (spF C K 2 (fnD 3 (b_plugged F))) := by
  refine fn_ok hF sc_plugged rfl fun cdv A outer s H E hr => ?_
  have nd := sc_plugged.nd
  have hu := hr.units
  have hu1 := hu_of hr
  have c_wrapped : Cal P w K mg base C k "wrapped" 2 (F .wrapped) := hC .wrapped
  exact ⟨_, (rss_cons (rs_for PassesOwn.never rfl (ri_tup (re_var 0)) (rg_name (vs := [2]) 2 (by decide) nd) (rss_one (rs_set 1 nd (re_call c_wrapped hr rfl (ra_cons (re_var 2) (ra_cons (re_var 1) ra_nil))))))
    (rss_one (rs_ret (re_var 1))))⟩
set_option maxHeartbeats 4000000 in
theorem ok_to_round {k : Nat} {f : Addr} {fd : FuncData} {F : Fns} (hF : L2.Fun K "to_round" "to_round" s_to_round f fd) (hC : ∀ n, Cal P w K mg base C k (nmS n) (nmA n) (F n)) (mb : Mb mg) : FnOk P w K mg base CX0 (k + 1) f fd ["frames"] (spF C K 1 (fnD 3 (b_to_round F))) := by
  refine fn_ok hF sc_to_round rfl fun cdv A outer s H E hr => ?_
  have nd := sc_to_round.nd
  have hu := hr.units
  have hu1 := hu_of hr
  have mb_enumerate := mb.enumerate
  exact ⟨_, (rss_cons (rs_for PassesOwn.never rfl (ri_enum rfl mb_enumerate (re_var 0)) (rg_tup rfl (rgs_cons (rg_name (vs := [1, 2]) 1 (by decide) nd) (rgs_cons (rg_name (vs := [1, 2]) 2 (by decide) nd) rgs_nil))) (rss_one (rs_if (rt_c (rc_eq (L := 64) hu (re_ix (re_var 2) re_int) re_str)) (rss_one (rs_ret (re_var 1))) rss_nil)))
    (rss_one (rs_ret re_non)))⟩
set_option maxHeartbeats 4000000 in
theorem ok_called {k : Nat} {f : Addr} {fd : FuncData} {F : Fns} (hF : L2.Fun K "called" "called" s_called f fd) (hC : ∀ n, Cal P w K mg base C k (nmS n) (nmA n) (F n)) (mb : Mb mg) : FnOk P w K mg base CX0 (k + 1) f fd ["here"] (spF C K 1 (fnD 1 (b_called F))) := by
  refine fn_ok hF sc_called rfl fun cdv A outer s H E hr => ?_
  have nd := sc_called.nd
  have hu := hr.units
  have hu1 := hu_of hr
  have c_plugged : Cal P w K mg base C k "plugged" 2 (F .plugged) := hC .plugged
  have c_put_in : Cal P w K mg base C k "put_in" 3 (F .put_in) := hC .put_in
  exact ⟨_, (rss_cons (rs_if (rt_c (rc_eq (L := 64) hu (re_ix (re_ix (re_var 0) re_int) re_int) re_str)) (rss_one (rs_ret (re_call c_put_in hr rfl (ra_cons (re_ix (re_ix (re_var 0) re_int) re_int) (ra_cons (re_ix (re_ix (re_var 0) re_int) re_int) (ra_cons (re_ix (re_var 0) re_int) ra_nil)))))) rss_nil)
    (rss_cons (rs_if (rt_c (rc_eq (L := 64) hu (re_ix (re_ix (re_var 0) re_int) re_int) re_str)) (rss_one (rs_ret (re_tup (ra_cons re_str (ra_cons (re_call c_plugged hr rfl (ra_cons (re_ix (re_ix (re_var 0) re_int) re_int) (ra_cons (re_ix (re_var 0) re_int) ra_nil))) ra_nil))))) rss_nil)
    (rss_one (rs_ret re_non))))⟩
set_option maxHeartbeats 4000000 in
theorem ok_done_here {k : Nat} {f : Addr} {fd : FuncData} {F : Fns} (hF : L2.Fun K "done_here" "done_here" s_done_here f fd) (hC : ∀ n, Cal P w K mg base C k (nmS n) (nmA n) (F n)) (mb : Mb mg) : FnOk P w K mg base CX0 (k + 1) f fd ["here"] (spF C K 1 (fnD 1 (b_done_here F))) := by
  refine fn_ok hF sc_done_here rfl fun cdv A outer s H E hr => ?_
  have nd := sc_done_here.nd
  have hu := hr.units
  have hu1 := hu_of hr
  have c_called : Cal P w K mg base C k "called" 1 (F .called) := hC .called
  exact ⟨_, (rss_cons (rs_if (rt_c (rc_eq (L := 64) hu (re_ix (re_var 0) re_int) re_str)) (rss_one (rs_ret (re_add (re_tup (ra_cons re_str ra_nil)) (re_slice (re_var 0) (rp_some re_int) rp_none)))) rss_nil)
    (rss_cons (rs_if (rt_c (rc_eq (L := 64) hu (re_ix (re_var 0) re_int) re_str)) (rss_one (rs_ret (re_ix (re_var 0) re_int))) rss_nil)
    (rss_cons (rs_if (rt_c (rc_eq (L := 64) hu (re_ix (re_var 0) re_int) re_str)) (rss_one (rs_ret (re_call c_called hr rfl (ra_cons (re_var 0) ra_nil)))) rss_nil)
    (rss_cons (rs_if (rt_c (rc_eq (L := 64) hu (re_ix (re_var 0) re_int) re_str)) (rss_cons (rs_if (rt_w (rw_and (rt_c (rc_eq (L := 64) hu (re_ix (re_ix (re_var 0) re_int) re_int) re_str)) (rw_and1 (rt_c (rc_eq (L := 64) hu (re_ix (re_ix (re_var 0) re_int) re_int) re_str))))) (rss_one (rs_ret (re_tup (ra_cons re_str (ra_cons (re_add (re_ix (re_ix (re_var 0) re_int) re_int) (re_ix (re_ix (re_var 0) re_int) re_int)) ra_nil))))) rss_nil)
    (rss_one (rs_ret re_non))) rss_nil)
    (rss_cons (rs_if (rt_c (rc_ne (L := 64) hu (re_ix (re_ix (re_var 0) re_int) re_int) re_str)) (rss_one (rs_ret re_non)) rss_nil)
    (rss_one (rs_ret (re_if (rt_c (rc_eq (L := 64) hu (re_ix (re_ix (re_var 0) re_int) re_int) re_int)) (re_ix (re_var 0) re_int) (re_ix (re_var 0) re_int)))))))))⟩
set_option maxHeartbeats 4000000 in
theorem ok_stepped {k : Nat} {f : Addr} {fd : FuncData} {F : Fns} (hF : L2.Fun K "stepped" "stepped" s_stepped f fd) (hC : ∀ n, Cal P w K mg base C k (nmS n) (nmA n) (F n)) (mb : Mb mg) : FnOk P w K mg base CX0 (k + 1) f fd ["piece"] (spF C K 1 (fnD 6 (b_stepped F))) := by
  refine fn_ok hF sc_stepped rfl fun cdv A outer s H E hr => ?_
  have nd := sc_stepped.nd
  have hu := hr.units
  have hu1 := hu_of hr
  have c_done_here : Cal P w K mg base C k "done_here" 1 (F .done_here) := hC .done_here
  have c_is_value : Cal P w K mg base C k "is_value" 1 (F .is_value) := hC .is_value
  have c_parted : Cal P w K mg base C k "parted" 1 (F .parted) := hC .parted
  have c_plugged : Cal P w K mg base C k "plugged" 2 (F .plugged) := hC .plugged
  have c_put_in : Cal P w K mg base C k "put_in" 3 (F .put_in) := hC .put_in
  have c_to_round : Cal P w K mg base C k "to_round" 1 (F .to_round) := hC .to_round
  exact ⟨_, (rss_cons (rs_if (rt_val (re_call c_is_value hr rfl (ra_cons (re_var 0) ra_nil))) (rss_one (rs_ret (re_tup (ra_cons re_str (ra_cons (re_var 0) ra_nil))))) rss_nil)
    (rss_cons (rs_asg (re_call c_parted hr rfl (ra_cons (re_var 0) ra_nil)) (rg_tup rfl (rgs_cons (rg_name (vs := [1, 2]) 1 (by decide) nd) (rgs_cons (rg_name (vs := [1, 2]) 2 (by decide) nd) rgs_nil))))
    (rss_cons (rs_if (rt_c (rc_eq (L := 64) hu (re_ix (re_var 2) re_int) re_str)) (rss_cons (rs_set 4 nd (re_call c_to_round hr rfl (ra_cons (re_var 1) ra_nil)))
    (rss_cons (rs_if (rt_c (rc_is (re_var 4) re_non)) (rss_one (rs_ret (re_tup (ra_cons re_str (ra_cons (re_ix (re_var 2) re_int) ra_nil))))) rss_nil)
    (rss_cons (rs_set 5 nd (re_tup (ra_cons re_str (ra_cons (re_ix (re_var 2) re_int) (ra_cons (re_slice (re_var 1) rp_none (rp_some (re_var 4))) ra_nil)))))
    (rss_one (rs_ret (re_tup (ra_cons re_str (ra_cons (re_call c_plugged hr rfl (ra_cons (re_slice (re_var 1) (rp_some (re_var 4)) rp_none) (ra_cons (re_call c_put_in hr rfl (ra_cons (re_ix (re_var 2) re_int) (ra_cons (re_ix (re_var 2) re_int) (ra_cons (re_var 5) ra_nil)))) ra_nil))) ra_nil)))))))) rss_nil)
    (rss_cons (rs_set 3 nd (re_call c_done_here hr rfl (ra_cons (re_var 2) ra_nil)))
    (rss_cons (rs_if (rt_c (rc_is (re_var 3) re_non)) (rss_one (rs_ret (re_tup (ra_cons re_str (ra_cons (re_ix (re_var 2) re_int) ra_nil))))) rss_nil)
    (rss_one (rs_ret (re_tup (ra_cons re_str (ra_cons (re_call c_plugged hr rfl (ra_cons (re_var 1) (ra_cons (re_var 3) ra_nil))) ra_nil))))))))))⟩
set_option maxHeartbeats 4000000 in
theorem ok__law_cell_at {k : Nat} {f : Addr} {fd : FuncData} {F : Fns} (hF : L2.Fun K "_law_cell_at" "_law_cell_at" s__law_cell_at f fd) (hC : ∀ n, Cal P w K mg base C k (nmS n) (nmA n) (F n)) (mb : Mb mg) : FnOk P w K mg base CX0 (k + 1) f fd ["_law_script", "_law_k"] (spF C K 2 (fnD 2 (b__law_cell_at F))) := by
  refine fn_ok hF sc__law_cell_at rfl fun cdv A outer s H E hr => ?_
  have nd := sc__law_cell_at.nd
  have hu := hr.units
  have hu1 := hu_of hr
  have mb_len := mb.len
  exact ⟨_, (rss_cons (rs_if (rt_c (rc_lt (re_var 1) (re_callB call_lenX s_len rfl mb_len PySem.boot_len (ra_cons (re_var 0) ra_nil)))) (rss_one (rs_ret (re_ix (re_var 0) (re_var 1)))) rss_nil)
    (rss_one (rs_ret re_int)))⟩
set_option maxHeartbeats 4000000 in
theorem ok__law_mixed {k : Nat} {f : Addr} {fd : FuncData} {F : Fns} (hF : L2.Fun K "_law_mixed" "_law_mixed" s__law_mixed f fd) (hC : ∀ n, Cal P w K mg base C k (nmS n) (nmA n) (F n)) (mb : Mb mg) : FnOk P w K mg base CX0 (k + 1) f fd ["_law_number"] (spF C K 1 (fnD 2 (b__law_mixed F))) := by
  refine fn_ok hF sc__law_mixed rfl fun cdv A outer s H E hr => ?_
  have nd := sc__law_mixed.nd
  have hu := hr.units
  have hu1 := hu_of hr
  exact ⟨_, (rss_cons (rs_set 1 nd (re_mod (re_add (re_mul (re_var 0) re_int) re_int) re_int))
    (rss_one (rs_ret (re_mod (re_add (re_mul (re_var 1) (re_var 1)) (re_div (re_var 1) re_int)) re_int))))⟩
set_option maxHeartbeats 4000000 in
theorem ok__law_name_by {k : Nat} {f : Addr} {fd : FuncData} {F : Fns} (hF : L2.Fun K "_law_name_by" "_law_name_by" s__law_name_by f fd) (hC : ∀ n, Cal P w K mg base C k (nmS n) (nmA n) (F n)) (mb : Mb mg) : FnOk P w K mg base CX0 (k + 1) f fd ["_law_mix"] (spF C K 1 (fnD 6 (b__law_name_by F))) := by
  refine fn_ok hF sc__law_name_by rfl fun cdv A outer s H E hr => ?_
  have nd := sc__law_name_by.nd
  have hu := hr.units
  have hu1 := hu_of hr
  have mb_range := mb.range
  exact ⟨_, (rss_cons (rs_set 1 nd re_str)
    (rss_cons (rs_if (rt_c (rc_eq (L := 64) hu (re_mod (re_var 0) re_int) re_int)) (rss_one (rs_ret (re_ix (re_var 1) (re_mod (re_div (re_var 0) re_int) re_int)))) rss_nil)
    (rss_cons (rs_set 2 nd (re_add re_int (re_mod (re_div (re_var 0) re_int) re_int)))
    (rss_cons (rs_set 3 nd (re_join re_str (re_L (rl_lc rfl nd (own := [("_law_k", 5)]) (ri_range1 rfl mb_range (ra_cons (re_var 2) ra_nil)) (RB.mk (own := [("_law_k", 5)]) (blkOk_by (own := [("_law_k", 5)]) (N := ["_law_mix", "_law_some", "_law_size", "_law_row", "_law_at", "_law_k"]) (sc := defScope s__law_name_by) (by decide +kernel)) (fun _ _ _ _ _ => ⟨_, (rg_name (vs := [5]) 5 (by decide) nd)⟩) (fun _ _ _ _ _ => ⟨_, rts_nil⟩) (fun _ _ _ _ _ => ⟨_, (re_ix (re_var 1) (re_mod (re_add (re_div (re_var 0) re_int) (re_mul re_int (re_var 5))) re_int))⟩))))))
    (rss_cons (rs_set 4 nd (re_mod (re_div (re_var 0) re_int) (re_var 2)))
    (rss_one (rs_ret (re_add (re_add (re_slice (re_var 3) rp_none (rp_some (re_var 4))) (re_ix (re_var 1) (re_mod (re_div (re_var 0) re_int) re_int))) (re_slice (re_var 3) (rp_some (re_add (re_var 4) re_int)) rp_none)))))))))⟩
set_option maxHeartbeats 4000000 in
theorem ok__law_mark_by {k : Nat} {f : Addr} {fd : FuncData} {F : Fns} (hF : L2.Fun K "_law_mark_by" "_law_mark_by" s__law_mark_by f fd) (hC : ∀ n, Cal P w K mg base C k (nmS n) (nmA n) (F n)) (mb : Mb mg) : FnOk P w K mg base CX0 (k + 1) f fd ["_law_mix"] (spF C K 1 (fnD 1 (b__law_mark_by F))) := by
  refine fn_ok hF sc__law_mark_by rfl fun cdv A outer s H E hr => ?_
  have nd := sc__law_mark_by.nd
  have hu := hr.units
  have hu1 := hu_of hr
  exact ⟨_, (rss_cons (rs_if (rt_c (rc_eq (L := 64) hu (re_mod (re_var 0) re_int) re_int)) (rss_one (rs_ret (re_mod (re_div (re_var 0) re_int) re_int))) rss_nil)
    (rss_one (rs_ret (re_mod (re_div (re_var 0) re_int) re_int))))⟩
set_option maxHeartbeats 4000000 in
theorem ok__law_leaf {k : Nat} {f : Addr} {fd : FuncData} {F : Fns} (hF : L2.Fun K "_law_leaf" "_law_leaf" s__law_leaf f fd) (hC : ∀ n, Cal P w K mg base C k (nmS n) (nmA n) (F n)) (mb : Mb mg) : FnOk P w K mg base CX0 (k + 1) f fd ["_law_mix", "_law_scope"] (spF C K 2 (fnD 2 (b__law_leaf F))) := by
  refine fn_ok hF sc__law_leaf rfl fun cdv A outer s H E hr => ?_
  have nd := sc__law_leaf.nd
  have hu := hr.units
  have hu1 := hu_of hr
  have mb_len := mb.len
  exact ⟨_, (rss_cons (rs_if (rt_w (rw_and (rt_c (rc_ne (L := 64) hu (re_var 1) (re_L (rl_lst ra_nil)))) (rw_and1 (rt_c (rc_gt (re_mod (re_var 0) re_int) re_int))))) (rss_one (rs_ret (re_tup (ra_cons re_str (ra_cons (re_ix (re_var 1) (re_mod (re_div (re_var 0) re_int) (re_callB call_lenX s_len rfl mb_len PySem.boot_len (ra_cons (re_var 1) ra_nil)))) ra_nil))))) rss_nil)
    (rss_cons (rs_if (rt_c (rc_eq (L := 64) hu (re_mod (re_var 0) re_int) re_int)) (rss_one (rs_ret (re_tup (ra_cons re_str (ra_cons (re_add (re_sub (re_mod (re_mul (re_var 0) re_int) (re_sub (re_mul re_int (re_pow re_int re_int)) re_int)) (re_pow re_int re_int)) re_int) ra_nil))))) rss_nil)
    (rss_one (rs_ret (re_tup (ra_cons re_str (ra_cons (re_sub (re_mod (re_div (re_var 0) re_int) re_int) re_int) ra_nil)))))))⟩
set_option maxHeartbeats 4000000 in
theorem ok__law_gone_on {k : Nat} {f : Addr} {fd : FuncData} {F : Fns} (hF : L2.Fun K "_law_gone_on" "_law_gone_on" s__law_gone_on f fd) (hC : ∀ n, Cal P w K mg base C k (nmS n) (nmA n) (F n)) (mb : Mb mg) : FnOk P w K mg base CX0 (k + 1) f fd ["_law_script", "_law_state", "_law_deep", "_law_scope"] (spF C K 4 (fnD 7 (b__law_gone_on F))) := by
  refine fn_ok hF sc__law_gone_on rfl fun cdv A outer s H E hr => ?_
  have nd := sc__law_gone_on.nd
  have hu := hr.units
  have hu1 := hu_of hr
  have mb_int := mb.int
  have c__law_cell_at : Cal P w K mg base C k "_law_cell_at" 2 (F ._law_cell_at) := hC ._law_cell_at
  have c__law_made : Cal P w K mg base C k "_law_made" 4 (F ._law_made) := hC ._law_made
  have c__law_mixed : Cal P w K mg base C k "_law_mixed" 1 (F ._law_mixed) := hC ._law_mixed
  exact ⟨_, (rss_cons (rs_set 4 nd (re_call c__law_mixed hr rfl (ra_cons (re_add (re_call c__law_cell_at hr rfl (ra_cons (re_var 0) (ra_cons (re_mod (re_ix (re_var 1) re_int) re_int) ra_nil))) re_int) ra_nil)))
    (rss_cons (rs_set 5 nd (re_call c__law_made hr rfl (ra_cons (re_var 0) (ra_cons (re_var 1) (ra_cons (re_sub (re_var 2) (re_mul re_int (re_callTy call_int1 s_int rfl mb_int (by decide +kernel) (ra_cons (re_and (re_c (rc_gt (re_mod (re_var 4) re_int) re_int)) (re_one (re_c (rc_gt (re_var 2) re_int)))) ra_nil)))) (ra_cons (re_var 3) ra_nil))))))
    (rss_cons (rs_if (rt_w (rw_or (rt_c (rc_eq (L := 64) hu (re_mod (re_var 4) re_int) re_int)) (rw_or1 (rt_c (rc_lt (re_var 2) re_int))))) (rss_one (rs_ret (re_var 5))) rss_nil)
    (rss_cons (rs_set 5 nd (re_tup (ra_cons re_str (ra_cons (re_mod (re_div (re_var 4) re_int) re_int) (ra_cons (re_tup (ra_cons re_str (ra_cons (re_ix (re_var 3) re_int) ra_nil))) (ra_cons (re_var 5) ra_nil))))))
    (rss_cons (rs_if (rt_c (rc_eq (L := 64) hu (re_mod (re_var 4) re_int) re_int)) (rss_one (rs_ret (re_tup (ra_cons re_str (ra_cons (re_mod (re_div (re_var 4) re_int) re_int) (ra_cons (re_tup (ra_cons re_str (ra_cons (re_ix (re_var 3) re_int) ra_nil))) (ra_cons (re_var 5) ra_nil))))))) rss_nil)
    (rss_cons (rs_if (rt_c (rc_eq (L := 64) hu (re_mod (re_var 4) re_int) re_int)) (rss_cons (rs_set 6 nd (re_tup (ra_cons re_str (ra_cons (re_mod (re_div (re_var 4) re_int) re_int) (ra_cons (re_tup (ra_cons re_str (ra_cons (re_ix (re_var 3) re_int) ra_nil))) (ra_cons (re_tup (ra_cons re_str (ra_cons (re_mod (re_div (re_var 4) re_int) re_int) ra_nil))) ra_nil))))))
    (rss_one (rs_ret (re_ix (re_L (rl_lst (ra_cons (re_tup (ra_cons re_str (ra_cons (re_mod (re_div (re_var 4) re_int) re_int) (ra_cons (re_var 5) (ra_cons (re_var 6) ra_nil))))) (ra_cons (re_tup (ra_cons re_str (ra_cons (re_mod (re_div (re_var 4) re_int) re_int) (ra_cons (re_var 6) (ra_cons (re_var 5) ra_nil))))) ra_nil)))) (re_mod (re_div (re_var 4) re_int) re_int))))) rss_nil)
    (rss_one (rs_ret (re_var 5)))))))))⟩
set_option maxHeartbeats 4000000 in
theorem ok__law_made {k : Nat} {f : Addr} {fd : FuncData} {F : Fns} (hF : L2.Fun K "_law_made" "_law_made" s__law_made f fd) (hC : ∀ n, Cal P w K mg base C k (nmS n) (nmA n) (F n)) (mb : Mb mg) : FnOk P w K mg base CX0 (k + 1) f fd ["_law_script", "_law_state", "_law_deep", "_law_scope"] (spF C K 4 (fnD 12 (b__law_made F))) := by
  refine fn_ok hF sc__law_made rfl fun cdv A outer s H E hr => ?_
  have nd := sc__law_made.nd
  have hu := hr.units
  have hu1 := hu_of hr
  have mb_int := mb.int
  have mb_len := mb.len
  have mb_min := mb.min
  have mb_range := mb.range
  have c__law_cell_at : Cal P w K mg base C k "_law_cell_at" 2 (F ._law_cell_at) := hC ._law_cell_at
  have c__law_gone_on : Cal P w K mg base C k "_law_gone_on" 4 (F ._law_gone_on) := hC ._law_gone_on
  have c__law_leaf : Cal P w K mg base C k "_law_leaf" 2 (F ._law_leaf) := hC ._law_leaf
  have c__law_made : Cal P w K mg base C k "_law_made" 4 (F ._law_made) := hC ._law_made
  have c__law_mark_by : Cal P w K mg base C k "_law_mark_by" 1 (F ._law_mark_by) := hC ._law_mark_by
  have c__law_mixed : Cal P w K mg base C k "_law_mixed" 1 (F ._law_mixed) := hC ._law_mixed
  have c__law_name_by : Cal P w K mg base C k "_law_name_by" 1 (F ._law_name_by) := hC ._law_name_by
  exact ⟨_, (rss_cons (rs_set 4 nd (re_call c__law_mixed hr rfl (ra_cons (re_add (re_call c__law_cell_at hr rfl (ra_cons (re_var 0) (ra_cons (re_mod (re_ix (re_var 1) re_int) re_int) ra_nil))) (re_mul re_int (re_ix (re_var 1) re_int))) ra_nil)))
    (rss_cons (rs_setIx (fun h1 h2 => pg_sub h1 h2 set_list) (re_add (re_ix (re_var 1) re_int) re_int) (re_var 1) re_int)
    (rss_cons (rs_set 5 nd (re_mod (re_var 4) re_int))
    (rss_cons (rs_set 6 nd (re_call c__law_mark_by hr rfl (ra_cons (re_div (re_var 4) re_int) ra_nil)))
    (rss_cons (rs_set 7 nd (re_call c__law_name_by hr rfl (ra_cons (re_div (re_var 4) re_int) ra_nil)))
    (rss_cons (rs_if (rt_w (rw_and (rt_c (rc_ne (L := 64) hu (re_var 3) (re_L (rl_lst ra_nil)))) (rw_and1 (rt_c (rc_eq (L := 64) hu (re_mod (re_div (re_var 4) re_int) re_int) re_int))))) (rss_one (rs_set 7 nd (re_ix (re_var 3) (re_mod (re_div (re_var 4) re_int) (re_callB call_lenX s_len rfl mb_len PySem.boot_len (ra_cons (re_var 3) ra_nil)))))) rss_nil)
    (rss_cons (rs_if (rt_w (rw_or (rt_c (rc_eq (L := 64) hu (re_var 2) re_int)) (rw_or (rt_c (rc_eq (L := 64) hu (re_var 5) re_int)) (rw_or1 (rt_c (rc_gt (re_ix (re_var 1) re_int) re_int)))))) (rss_one (rs_ret (re_call c__law_leaf hr rfl (ra_cons (re_div (re_var 4) re_int) (ra_cons (re_var 3) ra_nil))))) rss_nil)
    (rss_cons (rs_if (rt_c (rc_eq (L := 64) hu (re_var 5) re_int)) (rss_one (rs_ret (re_tup (ra_cons re_str (ra_cons (re_var 6) (ra_cons (re_var 7) (ra_cons (re_call c__law_made hr rfl (ra_cons (re_var 0) (ra_cons (re_var 1) (ra_cons (re_sub (re_var 2) re_int) (ra_cons (re_add (re_L (rl_lst (ra_cons (re_var 7) ra_nil))) (re_var 3)) ra_nil))))) ra_nil))))))) rss_nil)
    (rss_cons (rs_if (rt_c (rc_lt (re_var 5) re_int)) (rss_cons (rs_set 8 nd (re_call c__law_made hr rfl (ra_cons (re_var 0) (ra_cons (re_var 1) (ra_cons (re_add (re_sub (re_var 2) re_int) (re_callTy call_int1 s_int rfl mb_int (by decide +kernel) (ra_cons (re_c (rc_eq (L := 64) hu (re_var 2) re_int)) ra_nil))) (ra_cons (re_add (re_L (rl_lst (ra_cons (re_var 7) ra_nil))) (re_var 3)) ra_nil))))))
    (rss_one (rs_ret (re_tup (ra_cons re_str (ra_cons (re_var 6) (ra_cons (re_tup (ra_cons re_str (ra_cons (re_call c__law_mark_by hr rfl (ra_cons (re_div (re_var 4) re_int) ra_nil)) (ra_cons (re_var 7) (ra_cons (re_var 8) ra_nil))))) (ra_cons (re_call c__law_made hr rfl (ra_cons (re_var 0) (ra_cons (re_var 1) (ra_cons (re_sub (re_var 2) re_int) (ra_cons (re_var 3) ra_nil))))) ra_nil)))))))) rss_nil)
    (rss_cons (rs_if (rt_w (rw_and (rt_c (rc_lt (re_var 5) re_int)) (rw_and1 (rt_c (rc_ne (L := 64) hu (re_var 3) (re_L (rl_lst ra_nil))))))) (rss_cons (rs_set 9 nd (re_tup (ra_cons re_str (ra_cons (re_ix (re_var 3) (re_mod (re_div (re_var 4) re_int) (re_callB (call_min2 rfl) s_min rfl mb_min (by decide +kernel) (ra_cons re_int (ra_cons (re_callB call_lenX s_len rfl mb_len PySem.boot_len (ra_cons (re_var 3) ra_nil)) ra_nil))))) ra_nil))))
    (rss_one (rs_ret (re_tup (ra_cons re_str (ra_cons (re_var 6) (ra_cons (re_var 9) (ra_cons (re_call c__law_made hr rfl (ra_cons (re_var 0) (ra_cons (re_var 1) (ra_cons (re_sub (re_var 2) re_int) (ra_cons (re_var 3) ra_nil))))) ra_nil)))))))) rss_nil)
    (rss_cons (rs_if (rt_c (rc_eq (L := 64) hu (re_var 5) re_int)) (rss_cons (rs_lcM 10 rfl nd (own := [("_law_k", 11)]) (ri_range1 rfl mb_range (ra_cons re_int ra_nil)) (RB.mk (own := [("_law_k", 11)]) (blkOk_by (own := [("_law_k", 11)]) (N := ["_law_script", "_law_state", "_law_deep", "_law_scope", "_law_mix", "_law_way", "_law_mark", "_law_name", "_law_body", "_law_first", "_law_parts", "_law_k"]) (sc := defScope s__law_made) (by decide +kernel)) (fun _ _ _ _ _ => ⟨_, (rg_name (vs := [11]) 11 (by decide) nd)⟩) (fun _ _ _ _ _ => ⟨_, rts_nil⟩) (fun _ _ _ _ _ => ⟨_, (re_call c__law_made hr rfl (ra_cons (re_var 0) (ra_cons (re_var 1) (ra_cons (re_sub (re_var 2) re_int) (ra_cons (re_var 3) ra_nil)))))⟩)) (hsw := sw_true rfl rfl rfl (by decide +kernel)))
    (rss_cons (rs_if (rt_c (rc_eq (L := 64) hu (re_mod (re_div (re_var 4) re_int) re_int) re_int)) (rss_one (rs_setIx (fun h1 h2 => pg_sub h1 h2 set_list) (re_tup (ra_cons re_str (ra_cons (re_sub (re_mod (re_div (re_var 4) re_int) re_int) re_int) ra_nil))) (re_var 10) re_int)) rss_nil)
    (rss_one (rs_ret (re_tup (ra_cons re_str (ra_cons (re_var 6) (ra_cons (re_ix (re_var 10) re_int) (ra_cons (re_ix (re_var 10) re_int) (ra_cons (re_ix (re_var 10) re_int) ra_nil)))))))))) rss_nil)
    (rss_cons (rs_if (rt_c (rc_lt (re_var 5) re_int)) (rss_one (rs_ret (re_tup (ra_cons re_str (ra_cons (re_call c__law_made hr rfl (ra_cons (re_var 0) (ra_cons (re_var 1) (ra_cons (re_sub (re_var 2) re_int) (ra_cons (re_var 3) ra_nil))))) ra_nil))))) rss_nil)
    (rss_cons (rs_if (rt_c (rc_lt (re_var 5) re_int)) (rss_one (rs_ret (re_tup (ra_cons re_str (ra_cons (re_var 6) (ra_cons (re_var 7) (ra_cons (re_call c__law_gone_on hr rfl (ra_cons (re_var 0) (ra_cons (re_var 1) (ra_cons (re_sub (re_var 2) re_int) (ra_cons (re_add (re_L (rl_lst (ra_cons (re_var 7) ra_nil))) (re_var 3)) ra_nil))))) ra_nil))))))) rss_nil)
    (rss_cons (rs_if (rt_c (rc_eq (L := 64) hu (re_mod (re_div (re_var 4) re_int) re_int) re_int)) (rss_one (rs_ret (re_tup (ra_cons re_str (ra_cons (re_var 6) (ra_cons (re_call c__law_made hr rfl (ra_cons (re_var 0) (ra_cons (re_var 1) (ra_cons (re_sub (re_var 2) re_int) (ra_cons (re_var 3) ra_nil))))) (ra_cons (re_call c__law_made hr rfl (ra_cons (re_var 0) (ra_cons (re_var 1) (ra_cons (re_sub (re_var 2) re_int) (ra_cons (re_var 3) ra_nil))))) ra_nil))))))) rss_nil)
    (rss_one (rs_ret (re_tup (ra_cons re_str (ra_cons (re_var 6) (ra_cons (re_call c__law_made hr rfl (ra_cons (re_var 0) (ra_cons (re_var 1) (ra_cons (re_sub (re_var 2) re_int) (ra_cons (re_var 3) ra_nil))))) (ra_cons (re_call c__law_made hr rfl (ra_cons (re_var 0) (ra_cons (re_var 1) (ra_cons (re_sub (re_var 2) re_int) (ra_cons (re_var 3) ra_nil))))) ra_nil)))))))))))))))))))))⟩
set_option maxHeartbeats 4000000 in
theorem ok__law_piece {k : Nat} {f : Addr} {fd : FuncData} {F : Fns} (hF : L2.Fun K "_law_piece" "_law_piece" s__law_piece f fd) (hC : ∀ n, Cal P w K mg base C k (nmS n) (nmA n) (F n)) (mb : Mb mg) : FnOk P w K mg base CX0 (k + 1) f fd ["_law_script", "_law_first", "_law_cell"] (spF C K 3 (fnD 5 (b__law_piece F))) := by
  refine fn_ok hF sc__law_piece rfl fun cdv A outer s H E hr => ?_
  have nd := sc__law_piece.nd
  have hu := hr.units
  have hu1 := hu_of hr
  have mb_range := mb.range
  have c__law_made : Cal P w K mg base C k "_law_made" 4 (F ._law_made) := hC ._law_made
  have c__law_mark_by : Cal P w K mg base C k "_law_mark_by" 1 (F ._law_mark_by) := hC ._law_mark_by
  exact ⟨_, (rss_cons (rs_set 3 nd (re_call c__law_made hr rfl (ra_cons (re_var 0) (ra_cons (re_LM (rl_lst (ra_cons (re_var 1) ra_nil))) (ra_cons (re_add re_int (re_mod (re_var 2) re_int)) (ra_cons (re_L (rl_lst ra_nil)) ra_nil))))))
    (rss_cons (rs_if (rt_c (rc_gt (re_mod (re_div (re_var 2) re_int) re_int) re_int)) (rss_one (rs_set 3 nd (re_tup (ra_cons re_str (ra_cons (re_var 3) ra_nil))))) rss_nil)
    (rss_cons (rs_for PassesOwn.never rfl (ri_range1 rfl mb_range (ra_cons (re_ix (re_L (rl_lst (ra_cons re_int (ra_cons re_int (ra_cons re_int (ra_cons re_int ra_nil)))))) (re_mod (re_div (re_var 2) re_int) re_int)) ra_nil)) (rg_name (vs := [4]) 4 (by decide) nd) (rss_one (rs_set 3 nd (re_tup (ra_cons re_str (ra_cons (re_call c__law_mark_by hr rfl (ra_cons (re_add (re_var 2) (re_var 4)) ra_nil)) (ra_cons (re_tup (ra_cons re_str (ra_cons (re_var 4) ra_nil))) (ra_cons (re_var 3) ra_nil))))))))
    (rss_one (rs_ret (re_var 3))))))⟩
set_option maxHeartbeats 4000000 in
theorem ok__law_value {k : Nat} {f : Addr} {fd : FuncData} {F : Fns} (hF : L2.Fun K "_law_value" "_law_value" s__law_value f fd) (hC : ∀ n, Cal P w K mg base C k (nmS n) (nmA n) (F n)) (mb : Mb mg) : FnOk P w K mg base CX0 (k + 1) f fd ["_law_piece_here"] (spF C K 1 (fnD 1 (b__law_value F))) := by
  refine fn_ok hF sc__law_value rfl fun cdv A outer s H E hr => ?_
  have nd := sc__law_value.nd
  have hu := hr.units
  have hu1 := hu_of hr
  exact ⟨_, (rss_one (rs_ret (re_c (rc_in (re_ix (re_var 0) re_int) (re_tup (ra_cons re_str (ra_cons re_str (ra_cons re_str ra_nil))))))))⟩
set_option maxHeartbeats 4000000 in
theorem ok__law_put {k : Nat} {f : Addr} {fd : FuncData} {F : Fns} (hF : L2.Fun K "_law_put" "_law_put" s__law_put f fd) (hC : ∀ n, Cal P w K mg base C k (nmS n) (nmA n) (F n)) (mb : Mb mg) : FnOk P w K mg base CX0 (k + 1) f fd ["_law_piece_here", "_law_name", "_law_value_here"] (spF C K 3 (fnD 5 (b__law_put F))) := by
  refine fn_ok hF sc__law_put rfl fun cdv A outer s H E hr => ?_
  have nd := sc__law_put.nd
  have hu := hr.units
  have hu1 := hu_of hr
  have mb_int := mb.int
  have mb_tuple := mb.tuple
  have c__law_put : Cal P w K mg base C k "_law_put" 3 (F ._law_put) := hC ._law_put
  have c__law_value : Cal P w K mg base C k "_law_value" 1 (F ._law_value) := hC ._law_value
  exact ⟨_, (rss_cons (rs_if (rt_val (re_call c__law_value hr rfl (ra_cons (re_var 0) ra_nil))) (rss_one (rs_ret (re_var 0))) rss_nil)
    (rss_cons (rs_if (rt_c (rc_eq (L := 64) hu (re_ix (re_var 0) re_int) re_str)) (rss_one (rs_ret (re_ix (re_L (rl_lst (ra_cons (re_var 0) (ra_cons (re_var 2) ra_nil)))) (re_callTy call_int1 s_int rfl mb_int (by decide +kernel) (ra_cons (re_c (rc_eq (L := 64) hu (re_ix (re_var 0) re_int) (re_var 1))) ra_nil))))) rss_nil)
    (rss_cons (rs_if (rt_c (rc_in (re_ix (re_var 0) re_int) (re_tup (ra_cons re_str (ra_cons re_str ra_nil))))) (rss_cons (rs_if (rt_c (rc_eq (L := 64) hu (re_ix (re_var 0) re_int) (re_var 1))) (rss_one (rs_ret (re_var 0))) rss_nil)
    (rss_one (rs_ret (re_tup (ra_cons (re_ix (re_var 0) re_int) (ra_cons (re_ix (re_var 0) re_int) (ra_cons (re_ix (re_var 0) re_int) (ra_cons (re_call c__law_put hr rfl (ra_cons (re_ix (re_var 0) re_int) (ra_cons (re_var 1) (ra_cons (re_var 2) ra_nil)))) ra_nil)))))))) rss_nil)
    (rss_cons (rs_if (rt_c (rc_eq (L := 64) hu (re_ix (re_var 0) re_int) re_str)) (rss_one (rs_ret (re_tup (ra_cons re_str (ra_cons (re_call c__law_put hr rfl (ra_cons (re_ix (re_var 0) re_int) (ra_cons (re_var 1) (ra_cons (re_var 2) ra_nil)))) ra_nil))))) rss_nil)
    (rss_cons (rs_lc 3 rfl nd (own := [("_law_part", 4)]) (ri_tup (re_slice (re_var 0) (rp_some re_int) rp_none)) (RB.mk (own := [("_law_part", 4)]) (blkOk_by (own := [("_law_part", 4)]) (N := ["_law_piece_here", "_law_name", "_law_value_here", "_law_parts", "_law_part"]) (sc := defScope s__law_put) (by decide +kernel)) (fun _ _ _ _ _ => ⟨_, (rg_name (vs := [4]) 4 (by decide) nd)⟩) (fun _ _ _ _ _ => ⟨_, rts_nil⟩) (fun _ _ _ _ _ => ⟨_, (re_call c__law_put hr rfl (ra_cons (re_var 4) (ra_cons (re_var 1) (ra_cons (re_var 2) ra_nil))))⟩)) (hsw := sw_true rfl rfl rfl (by decide +kernel)))
    (rss_one (rs_ret (re_add (re_tup (ra_cons (re_ix (re_var 0) re_int) (ra_cons (re_ix (re_var 0) re_int) ra_nil))) (re_callTy call_tuple_of s_tuple rfl mb_tuple (by decide +kernel) (ra_cons (re_var 3) ra_nil))))))))))⟩
set_option maxHeartbeats 4000000 in
theorem ok__law_inward {k : Nat} {f : Addr} {fd : FuncData} {F : Fns} (hF : L2.Fun K "_law_inward" "_law_inward" s__law_inward f fd) (hC : ∀ n, Cal P w K mg base C k (nmS n) (nmA n) (F n)) (mb : Mb mg) : FnOk P w K mg base CX0 (k + 1) f fd ["_law_piece_here"] (spF C K 1 (fnD 1 (b__law_inward F))) := by
  refine fn_ok hF sc__law_inward rfl fun cdv A outer s H E hr => ?_
  have nd := sc__law_inward.nd
  have hu := hr.units
  have hu1 := hu_of hr
  have c__law_value : Cal P w K mg base C k "_law_value" 1 (F ._law_value) := hC ._law_value
  exact ⟨_, (rss_cons (rs_if (rt_w (rw_and (rt_c (rc_eq (L := 64) hu (re_ix (re_var 0) re_int) re_str)) (rw_and1 (rt_not (rt_val (re_call c__law_value hr rfl (ra_cons (re_ix (re_var 0) re_int) ra_nil))))))) (rss_one (rs_ret re_int)) rss_nil)
    (rss_cons (rs_if (rt_w (rw_and (rt_c (rc_in (re_ix (re_var 0) re_int) (re_tup (ra_cons re_str (ra_cons re_str (ra_cons re_str ra_nil)))))) (rw_and1 (rt_not (rt_val (re_call c__law_value hr rfl (ra_cons (re_ix (re_var 0) re_int) ra_nil))))))) (rss_one (rs_ret re_int)) rss_nil)
    (rss_cons (rs_if (rt_w (rw_and (rt_c (rc_in (re_ix (re_var 0) re_int) (re_tup (ra_cons re_str (ra_cons re_str ra_nil))))) (rw_and1 (rt_not (rt_val (re_call c__law_value hr rfl (ra_cons (re_ix (re_var 0) re_int) ra_nil))))))) (rss_one (rs_ret re_int)) rss_nil)
    (rss_one (rs_ret re_int)))))⟩
set_option maxHeartbeats 4000000 in
theorem ok__law_line {k : Nat} {f : Addr} {fd : FuncData} {F : Fns} (hF : L2.Fun K "_law_line" "_law_line" s__law_line f fd) (hC : ∀ n, Cal P w K mg base C k (nmS n) (nmA n) (F n)) (mb : Mb mg) : FnOk P w K mg base CX0 (k + 1) f fd ["_law_piece_here"] (spF C K 1 (fnD 3 (b__law_line F))) := by
  refine fn_ok hF sc__law_line rfl fun cdv A outer s H E hr => ?_
  have nd := sc__law_line.nd
  have hu := hr.units
  have hu1 := hu_of hr
  have c__law_inward : Cal P w K mg base C k "_law_inward" 1 (F ._law_inward) := hC ._law_inward
  exact ⟨_, (rss_cons (rs_set 1 nd (re_LM (rl_lst (ra_cons (re_tup (ra_cons (re_var 0) (ra_cons (re_call c__law_inward hr rfl (ra_cons (re_var 0) ra_nil)) ra_nil))) ra_nil))))
    (rss_cons (rs_while PassesOwn.never (rt_c (rc_gt (re_ix (re_ix (re_var 1) (re_neg re_int)) re_int) re_int)) (rss_cons (rs_set 2 nd (re_ix (re_ix (re_ix (re_var 1) (re_neg re_int)) re_int) (re_ix (re_ix (re_var 1) (re_neg re_int)) re_int)))
    (rss_one (rs_expr (re_append (fun h1 h2 => pe_bm PySem.F.plainAttrs_list PySem.F.slot_list_append PySem.F.type_list_append mt_append h1 h2) (re_var 1) (re_tup (ra_cons (re_var 2) (ra_cons (re_call c__law_inward hr rfl (ra_cons (re_var 2) ra_nil)) ra_nil))))))))
    (rss_one (rs_ret (re_var 1)))))⟩
set_option maxHeartbeats 4000000 in
theorem ok__law_frame {k : Nat} {f : Addr} {fd : FuncData} {F : Fns} (hF : L2.Fun K "_law_frame" "_law_frame" s__law_frame f fd) (hC : ∀ n, Cal P w K mg base C k (nmS n) (nmA n) (F n)) (mb : Mb mg) : FnOk P w K mg base CX0 (k + 1) f fd ["_law_piece_here", "_law_k"] (spF C K 2 (fnD 3 (b__law_frame F))) := by
  refine fn_ok hF sc__law_frame rfl fun cdv A outer s H E hr => ?_
  have nd := sc__law_frame.nd
  have hu := hr.units
  have hu1 := hu_of hr
  exact ⟨_, (rss_cons (rs_if (rt_c (rc_eq (L := 64) hu (re_ix (re_var 0) re_int) re_str)) (rss_one (rs_ret (re_tup (ra_cons re_str ra_nil)))) rss_nil)
    (rss_cons (rs_if (rt_c (rc_eq (L := 64) hu (re_ix (re_var 0) re_int) re_str)) (rss_one (rs_ret (re_tup (ra_cons re_str (ra_cons (re_ix (re_var 0) re_int) (ra_cons (re_ix (re_var 0) re_int) (ra_cons (re_ix (re_var 0) re_int) ra_nil))))))) rss_nil)
    (rss_cons (rs_set 2 nd (re_ix (re_dget hu1 (re_Di (rd_disp (rpps_cons re_str (re_L (rl_lst (ra_cons re_str (ra_cons re_str ra_nil)))) (rpps_cons re_str (re_L (rl_lst (ra_cons re_str (ra_cons re_str ra_nil)))) rpps_nil)))) (re_ix (re_var 0) re_int)) (re_sub (re_var 1) re_int)))
    (rss_one (rs_ret (re_tup (ra_cons (re_var 2) (ra_cons (re_ix (re_var 0) re_int) (ra_cons (re_ix (re_var 0) (re_sub re_int (re_var 1))) ra_nil)))))))))⟩
set_option maxHeartbeats 4000000 in
theorem ok__law_about {k : Nat} {f : Addr} {fd : FuncData} {F : Fns} (hF : L2.Fun K "_law_about" "_law_about" s__law_about f fd) (hC : ∀ n, Cal P w K mg base C k (nmS n) (nmA n) (F n)) (mb : Mb mg) : FnOk P w K mg base CX0 (k + 1) f fd ["_law_line_here", "_law_inner"] (spF C K 2 (fnD 4 (b__law_about F))) := by
  refine fn_ok hF sc__law_about rfl fun cdv A outer s H E hr => ?_
  have nd := sc__law_about.nd
  have hu := hr.units
  have hu1 := hu_of hr
  exact ⟨_, (rss_cons (rs_for PassesOwn.never rfl (ri_list (re_L (rl_rev (re_var 0)))) (rg_tup rfl (rgs_cons (rg_name (vs := [2, 3]) 2 (by decide) nd) (rgs_cons (rg_name (vs := [2, 3]) 3 (by decide) nd) rgs_nil))) (rss_one (rs_set 1 nd (re_add (re_add (re_slice (re_var 2) rp_none (rp_some (re_var 3))) (re_tup (ra_cons (re_var 1) ra_nil))) (re_slice (re_var 2) (rp_some (re_add (re_var 3) re_int)) rp_none)))))
    (rss_one (rs_ret (re_var 1))))⟩
set_option maxHeartbeats 4000000 in
theorem ok__law_in_frames {k : Nat} {f : Addr} {fd : FuncData} {F : Fns} (hF : L2.Fun K "_law_in_frames" "_law_in_frames" s__law_in_frames f fd) (hC : ∀ n, Cal P w K mg base C k (nmS n) (nmA n) (F n)) (mb : Mb mg) : FnOk P w K mg base CX0 (k + 1) f fd ["_law_frames", "_law_inner"] (spF C K 2 (fnD 3 (b__law_in_frames F))) := by
  refine fn_ok hF sc__law_in_frames rfl fun cdv A outer s H E hr => ?_
  have nd := sc__law_in_frames.nd
  have hu := hr.units
  have hu1 := hu_of hr
  exact ⟨_, (rss_cons (rs_for PassesOwn.never rfl (ri_tup (re_var 0)) (rg_name (vs := [2]) 2 (by decide) nd) (rss_one (rs_if (rt_w (rw_or (rt_c (rc_eq (L := 64) hu (re_ix (re_var 2) re_int) re_str)) (rw_or1 (rt_c (rc_eq (L := 64) hu (re_ix (re_var 2) re_int) re_str))))) (rss_one (rs_set 1 nd (re_tup (ra_cons (re_dget hu1 (re_Di (rd_disp (rpps_cons re_str re_str (rpps_cons re_str re_str rpps_nil)))) (re_ix (re_var 2) re_int)) (ra_cons (re_ix (re_var 2) re_int) (ra_cons (re_var 1) (ra_cons (re_ix (re_var 2) re_int) ra_nil))))))) (rss_one (rs_if (rt_w (rw_or (rt_c (rc_eq (L := 64) hu (re_ix (re_var 2) re_int) re_str)) (rw_or1 (rt_c (rc_eq (L := 64) hu (re_ix (re_var 2) re_int) re_str))))) (rss_one (rs_set 1 nd (re_tup (ra_cons (re_dget hu1 (re_Di (rd_disp (rpps_cons re_str re_str (rpps_cons re_str re_str rpps_nil)))) (re_ix (re_var 2) re_int)) (ra_cons (re_ix (re_var 2) re_int) (ra_cons (re_ix (re_var 2) re_int) (ra_cons (re_var 1) ra_nil))))))) (rss_one (rs_if (rt_c (rc_eq (L := 64) hu (re_ix (re_var 2) re_int) re_str)) (rss_one (rs_set 1 nd (re_tup (ra_cons re_str (ra_cons (re_ix (re_var 2) re_int) (ra_cons (re_var 1) (ra_cons (re_ix (re_var 2) re_int) (ra_cons (re_ix (re_var 2) re_int) ra_nil)))))))) (rss_one (rs_set 1 nd (re_tup (ra_cons re_str (ra_cons (re_var 1) ra_nil))))))))))))
    (rss_one (rs_ret (re_var 1))))⟩
set_option maxHeartbeats 4000000 in
theorem ok__law_becomes {k : Nat} {f : Addr} {fd : FuncData} {F : Fns} (hF : L2.Fun K "_law_becomes" "_law_becomes" s__law_becomes f fd) (hC : ∀ n, Cal P w K mg base C k (nmS n) (nmA n) (F n)) (mb : Mb mg) : FnOk P w K mg base CX0 (k + 1) f fd ["_law_here"] (spF C K 1 (fnD 1 (b__law_becomes F))) := by
  refine fn_ok hF sc__law_becomes rfl fun cdv A outer s H E hr => ?_
  have nd := sc__law_becomes.nd
  have hu := hr.units
  have hu1 := hu_of hr
  have mb_int := mb.int
  have c__law_in_frames : Cal P w K mg base C k "_law_in_frames" 2 (F ._law_in_frames) := hC ._law_in_frames
  have c__law_put : Cal P w K mg base C k "_law_put" 3 (F ._law_put) := hC ._law_put
  exact ⟨_, (rss_cons (rs_if (rt_c (rc_eq (L := 64) hu (re_ix (re_var 0) re_int) re_str)) (rss_one (rs_ret (re_tup (ra_cons re_str (ra_cons (re_ix (re_var 0) re_int) (ra_cons (re_ix (re_var 0) re_int) (ra_cons (re_ix (re_var 0) re_int) ra_nil))))))) rss_nil)
    (rss_cons (rs_if (rt_c (rc_eq (L := 64) hu (re_ix (re_var 0) re_int) re_str)) (rss_one (rs_ret (re_ix (re_var 0) re_int))) rss_nil)
    (rss_cons (rs_if (rt_w (rw_and (rt_c (rc_eq (L := 64) hu (re_ix (re_var 0) re_int) re_str)) (rw_and1 (rt_c (rc_eq (L := 64) hu (re_ix (re_ix (re_var 0) re_int) re_int) re_str))))) (rss_one (rs_ret (re_call c__law_put hr rfl (ra_cons (re_ix (re_ix (re_var 0) re_int) re_int) (ra_cons (re_ix (re_ix (re_var 0) re_int) re_int) (ra_cons (re_ix (re_var 0) re_int) ra_nil)))))) rss_nil)
    (rss_cons (rs_if (rt_w (rw_and (rt_c (rc_eq (L := 64) hu (re_ix (re_var 0) re_int) re_str)) (rw_and1 (rt_c (rc_eq (L := 64) hu (re_ix (re_ix (re_var 0) re_int) re_int) re_str))))) (rss_one (rs_ret (re_tup (ra_cons re_str (ra_cons (re_call c__law_in_frames hr rfl (ra_cons (re_ix (re_ix (re_var 0) re_int) re_int) (ra_cons (re_ix (re_var 0) re_int) ra_nil))) ra_nil))))) rss_nil)
    (rss_cons (rs_if (rt_w (rw_and (rt_c (rc_eq (L := 64) hu (re_ix (re_var 0) re_int) re_str)) (rw_and (rt_c (rc_eq (L := 64) hu (re_ix (re_ix (re_var 0) re_int) re_int) re_str)) (rw_and1 (rt_c (rc_eq (L := 64) hu (re_ix (re_ix (re_var 0) re_int) re_int) re_str)))))) (rss_one (rs_ret (re_tup (ra_cons re_str (ra_cons (re_add (re_ix (re_ix (re_var 0) re_int) re_int) (re_ix (re_ix (re_var 0) re_int) re_int)) ra_nil))))) rss_nil)
    (rss_cons (rs_if (rt_w (rw_and (rt_c (rc_eq (L := 64) hu (re_ix (re_var 0) re_int) re_str)) (rw_and1 (rt_c (rc_eq (L := 64) hu (re_ix (re_ix (re_var 0) re_int) re_int) re_str))))) (rss_one (rs_ret (re_ix (re_var 0) (re_add re_int (re_callTy call_int1 s_int rfl mb_int (by decide +kernel) (ra_cons (re_c (rc_ne (L := 64) hu (re_ix (re_ix (re_var 0) re_int) re_int) re_int)) ra_nil)))))) rss_nil)
    (rss_one (rs_ret re_non))))))))⟩
set_option maxHeartbeats 4000000 in
theorem ok__law_step {k : Nat} {f : Addr} {fd : FuncData} {F : Fns} (hF : L2.Fun K "_law_step" "_law_step" s__law_step f fd) (hC : ∀ n, Cal P w K mg base C k (nmS n) (nmA n) (F n)) (mb : Mb mg) : FnOk P w K mg base CX0 (k + 1) f fd ["_law_piece_here"] (spF C K 1 (fnD 9 (b__law_step F))) := by
  refine fn_ok hF sc__law_step rfl fun cdv A outer s H E hr => ?_
  have nd := sc__law_step.nd
  have hu := hr.units
  have hu1 := hu_of hr
  have mb_len := mb.len
  have mb_range := mb.range
  have mb_tuple := mb.tuple
  have c__law_about : Cal P w K mg base C k "_law_about" 2 (F ._law_about) := hC ._law_about
  have c__law_becomes : Cal P w K mg base C k "_law_becomes" 1 (F ._law_becomes) := hC ._law_becomes
  have c__law_frame : Cal P w K mg base C k "_law_frame" 2 (F ._law_frame) := hC ._law_frame
  have c__law_line : Cal P w K mg base C k "_law_line" 1 (F ._law_line) := hC ._law_line
  have c__law_put : Cal P w K mg base C k "_law_put" 3 (F ._law_put) := hC ._law_put
  have c__law_value : Cal P w K mg base C k "_law_value" 1 (F ._law_value) := hC ._law_value
  exact ⟨_, (rss_cons (rs_if (rt_val (re_call c__law_value hr rfl (ra_cons (re_var 0) ra_nil))) (rss_one (rs_ret (re_tup (ra_cons re_str (ra_cons (re_var 0) ra_nil))))) rss_nil)
    (rss_cons (rs_set 1 nd (re_call c__law_line hr rfl (ra_cons (re_var 0) ra_nil)))
    (rss_cons (rs_set 2 nd (re_ix (re_ix (re_var 1) (re_neg re_int)) re_int))
    (rss_cons (rs_set 1 nd (re_slice (re_var 1) rp_none (rp_some (re_neg re_int))))
    (rss_cons (rs_if (rt_c (rc_ne (L := 64) hu (re_ix (re_var 2) re_int) re_str)) (rss_cons (rs_set 6 nd (re_call c__law_becomes hr rfl (ra_cons (re_var 2) ra_nil)))
    (rss_cons (rs_if (rt_c (rc_is (re_var 6) re_non)) (rss_one (rs_ret (re_tup (ra_cons re_str (ra_cons (re_ix (re_var 2) re_int) ra_nil))))) rss_nil)
    (rss_one (rs_ret (re_tup (ra_cons re_str (ra_cons (re_call c__law_about hr rfl (ra_cons (re_var 1) (ra_cons (re_var 6) ra_nil))) ra_nil))))))) rss_nil)
    (rss_cons (rs_lc 3 rfl nd (own := [("_law_k", 7)]) (ri_range1 rfl mb_range (ra_cons (re_callB call_lenX s_len rfl mb_len PySem.boot_len (ra_cons (re_var 1) ra_nil)) ra_nil)) (RB.mk (own := [("_law_k", 7)]) (blkOk_by (own := [("_law_k", 7)]) (N := ["_law_piece_here", "_law_line_here", "_law_here", "_law_rounds", "_law_frames", "_law_kept", "_law_new", "_law_k", "_law_row"]) (sc := defScope s__law_step) (by decide +kernel)) (fun _ _ _ _ _ => ⟨_, (rg_name (vs := [7]) 7 (by decide) nd)⟩) (fun _ _ _ _ _ => ⟨_, (rts_one (rt_c (rc_eq (L := 64) hu (re_ix (re_ix (re_ix (re_var 1) (re_var 7)) re_int) re_int) re_str)))⟩) (fun _ _ _ _ _ => ⟨_, (re_var 7)⟩)) (hsw := sw_true rfl rfl rfl (by decide +kernel)))
    (rss_cons (rs_if (rt_c (rc_eq (L := 64) hu (re_var 3) (re_L (rl_lst ra_nil)))) (rss_one (rs_ret (re_tup (ra_cons re_str (ra_cons (re_ix (re_var 2) re_int) ra_nil))))) rss_nil)
    (rss_cons (rs_lc 4 rfl nd (own := [("_law_row", 8)]) (ri_list (re_slice (re_var 1) (rp_some (re_add (re_ix (re_var 3) (re_neg re_int)) re_int)) rp_none)) (RB.mk (own := [("_law_row", 8)]) (blkOk_by (own := [("_law_row", 8)]) (N := ["_law_piece_here", "_law_line_here", "_law_here", "_law_rounds", "_law_frames", "_law_kept", "_law_new", "_law_k", "_law_row"]) (sc := defScope s__law_step) (by decide +kernel)) (fun _ _ _ _ _ => ⟨_, (rg_name (vs := [8]) 8 (by decide) nd)⟩) (fun _ _ _ _ _ => ⟨_, rts_nil⟩) (fun _ _ _ _ _ => ⟨_, (re_call c__law_frame hr rfl (ra_cons (re_ix (re_var 8) re_int) (ra_cons (re_ix (re_var 8) re_int) ra_nil)))⟩)) (hsw := sw_true rfl rfl rfl (by decide +kernel)))
    (rss_cons (rs_set 5 nd (re_tup (ra_cons re_str (ra_cons (re_ix (re_var 2) re_int) (ra_cons (re_callTy call_tuple_of s_tuple rfl mb_tuple (by decide +kernel) (ra_cons (re_L (rl_rev (re_var 4))) ra_nil)) ra_nil)))))
    (rss_one (rs_ret (re_tup (ra_cons re_str (ra_cons (re_call c__law_about hr rfl (ra_cons (re_slice (re_var 1) rp_none (rp_some (re_add (re_ix (re_var 3) (re_neg re_int)) re_int))) (ra_cons (re_call c__law_put hr rfl (ra_cons (re_ix (re_var 2) re_int) (ra_cons (re_ix (re_var 2) re_int) (ra_cons (re_var 5) ra_nil)))) ra_nil))) ra_nil))))))))))))))⟩
set_option maxHeartbeats 4000000 in
theorem ok_law {f : Addr} {fd : FuncData} {F : Fns} (hF : L2.Fun K "law" "law" s_law f fd) (hC : ∀ n, Cal P w K mg base C 230 (nmS n) (nmA n) (F n)) (mb : Mb mg) : FnOk P w K mg base CX0 231 f fd ["_law_script"] (spF C K 1 (fnD 9 (b_law F))) := by
  refine fn_ok hF sc_law rfl fun cdv A outer s H E hr => ?_
  have nd := sc_law.nd
  have hu := hr.units
  have hu1 := hu_of hr
  have huL := Cb.unL hr
  have mb_isinstance := mb.isinstance
  have mb_range := mb.range
  have mb_tuple := mb.tuple
  have c__law_cell_at : Cal P w K mg base C 230 "_law_cell_at" 2 (F ._law_cell_at) := hC ._law_cell_at
  have c__law_mixed : Cal P w K mg base C 230 "_law_mixed" 1 (F ._law_mixed) := hC ._law_mixed
  have c__law_piece : Cal P w K mg base C 230 "_law_piece" 3 (F ._law_piece) := hC ._law_piece
  have c__law_step : Cal P w K mg base C 230 "_law_step" 1 (F ._law_step) := hC ._law_step
  have c_stepped : Cal P w K mg base C 230 "stepped" 1 (F .stepped) := hC .stepped
  exact ⟨_, (rss_cons (rs_set 1 nd (re_call c__law_mixed hr rfl (ra_cons (re_call c__law_cell_at hr rfl (ra_cons (re_var 0) (ra_cons re_int ra_nil))) ra_nil)))
    (rss_cons (rs_set 2 nd (re_call c__law_piece hr rfl (ra_cons (re_var 0) (ra_cons re_int (ra_cons (re_var 1) ra_nil)))))
    (rss_cons (rs_if (rt_c (rc_eq (L := 3800) huL (re_mod (re_div (re_var 1) re_int) re_int) re_int)) (rss_cons (rs_set 4 nd (re_LM (rl_lst (ra_cons (re_tup (ra_cons re_str (ra_cons re_int (ra_cons (re_tup (ra_cons re_str (ra_cons (re_mod (re_var 1) re_int) ra_nil))) ra_nil)))) (ra_cons (re_tup (ra_cons re_str ra_nil)) (ra_cons (re_tup (ra_cons re_str (ra_cons re_int (ra_cons (re_tup (ra_cons re_str (ra_cons re_int (ra_cons re_str (ra_cons (re_tup (ra_cons re_str (ra_cons re_str ra_nil))) ra_nil))))) ra_nil)))) ra_nil))))))
    (rss_cons (rs_expr (re_append (fun h1 h2 => pe_bm PySem.F.plainAttrs_list PySem.F.slot_list_append PySem.F.type_list_append mt_append h1 h2) (re_var 4) (re_tup (ra_cons re_str ra_nil))))
    (rss_cons (rs_set 5 nd (re_tup (ra_cons re_str (ra_cons re_int (ra_cons (re_callTy call_tuple_of s_tuple rfl mb_tuple (by decide +kernel) (ra_cons (re_add (re_slice (re_var 4) rp_none (rp_some (re_mod (re_div (re_var 1) re_int) re_int))) (re_L (rl_lst (ra_cons (re_tup (ra_cons re_str (ra_cons re_int (ra_cons (re_var 2) (ra_cons (re_tup (ra_cons re_str (ra_cons re_int ra_nil))) ra_nil))))) ra_nil)))) ra_nil)) ra_nil)))))
    (rss_one (rs_set 2 nd (re_tup (ra_cons re_str (ra_cons re_int (ra_cons (re_tup (ra_cons re_str (ra_cons re_int (ra_cons (re_var 5) (ra_cons (re_tup (ra_cons re_str (ra_cons (re_sub (re_mod (re_var 1) re_int) re_int) ra_nil))) ra_nil))))) (ra_cons (re_tup (ra_cons re_str (ra_cons re_int ra_nil))) ra_nil)))))))))) rss_nil)
    (rss_cons (rs_for PassesOwn.never rfl (ri_range1 rfl mb_range (ra_cons (re_add re_int (re_mod (re_call c__law_cell_at hr rfl (ra_cons (re_var 0) (ra_cons re_int ra_nil))) re_int)) ra_nil)) (rg_name (vs := [3]) 3 (by decide) nd) (rss_cons (rs_asg (re_call c__law_step hr rfl (ra_cons (re_var 2) ra_nil)) (rg_tup rfl (rgs_cons (rg_name (vs := [6, 7]) 6 (by decide) nd) (rgs_cons (rg_name (vs := [6, 7]) 7 (by decide) nd) rgs_nil))))
    (rss_cons (rs_set 8 nd (re_call c_stepped hr rfl (ra_cons (re_var 2) ra_nil)))
    (rss_cons (rs_if (rt_w (rw_or (rt_not (rt_val (re_isi (T := "tuple") (by decide) rfl mb_isinstance rfl mb_tuple (by decide +kernel) (re_var 8)))) (rw_or1 (rt_c (rc_ne (L := 3800) huL (re_var 8) (re_tup (ra_cons (re_var 6) (ra_cons (re_var 7) ra_nil)))))))) (rss_one (rs_ret re_bl)) rss_nil)
    (rss_one (rs_if (rt_c (rc_eq (L := 3800) huL (re_var 6) re_str)) (rss_one (rs_set 2 nd (re_var 7))) rss_nil))))))
    (rss_one (rs_ret re_bl))))))⟩
end
theorem Fk_s (k : Nat) (n : Nm) : Fk (k + 1) n = bodies (Fk k) n := rfl
theorem lev {k : Nat} (h : 1 ≤ k) : ∃ j, k = j + 1 := ⟨k - 1, by omega⟩
/-! ## the law's drawing of pieces -/
def cell (ns : List Int) (i : Int) : Int := if i < ns.length then (atI ns i).getD 0 else 0
theorem cell_D {k : Nat} (hk : 1 ≤ k) (ns : List Int) (i : Int) (h : 0 ≤ i) (S : List O) : Fk k ._law_cell_at [.scr ns, .int i] S = some (.int (cell ns i), S) := by
  obtain ⟨k, rfl⟩ := lev hk
  rw [Fk_s]
  by_cases hi : i < ns.length
  · obtain ⟨x, h1, _⟩ := atI_in h hi
    simp [bodies, varK_1, eVar_u, eC_u, aNil_u, acK1_1, acK2_1, aCons_u, tupK_1, eTup_u, ldK_1, lDisp_u, eLK_1, eLMK_1, eL_u, eLM_u, eDiK_1, eDMK_1, eDi_u, eDM_u, opK1_1, opK2_1, opK3_1, eOp_u, negK_1, eNeg_u, slK1_1, slK2_1, slK3_1, slK4_1, ptSK_1, ptN_u, ptS_u, eSlice_u, callK_1, eCall_u, biK_1, blK_1, blK2_1, eBi_u, lBi_u, isiK_1, isiK2_1, eIsi_u, revK_1, revK2_1, lRev_u, andEK_1, andEK_2, orEK_1, orEK_2, notEK_1, orSK_1, ifEK_1, ifEK_2, tofK_1, eAnd_u, eOr_u, eNot_u, eOrS_u, eIf_u, tOf_u, chK1_1, chK2_1, chK3_1, chK3_2, eChain_u, tandK_1, tandK_2, torK_1, torK_2, tnotK_1, tTrue_u, tfAnd_u, tfOr_u, tfNot_u, lcK1_1, lcK2_1, lcK3_1, lcK3_2, lcK4_1, lcK5_1, lcD_n, lcD_c, aLc_u, wipeD_n, wipeD_c, gdName_u, gsK_1, gsNil_u, gdTup_u, gsCons_u, iseqK_1, iseqK2_1, itupK_1, istrK_1, irng1K_1, irng2K_1, seqP_1, seqP_2, iSeq_u, iTupD_u, iStrD_u, iRange1_u, iRange2_u, m1K_1, m1K2_1, m0K_1, s1K_1, eMeth1_u, eMeth0_u, eS1_u, setK_1, asgK_1, asgK2_1, retK_1, expK_1, seqK_1, seqK_2, seqK_3, ifK_1, ifK_2, forK_1, forD_n, forK2_1, forK3_1, forK3_2, forK3_3, fnK_1, fnK_2, gcK_1, sNext_u, sBrk_u, stK_1, stK0_1, stK1_1, stK2_1, sSet_u, sAsg_u, sRet_u, sExp_u, sSeq_u, sIf_u, sFor_u, forD_c, fnD_u, gcFn_u, sSetIx_u, dAdd_i, dAdd_s, dAdd_t, dAdd_l, dSub_i, dCmp_i, dEq_s, dEq_i, dEq_b, dNe_s, dNe_i, dNe_b, dIx_t, dIx_l, dIx_c, dSlice_t, dSlice_l, dSlice_c, dSlice_s, bLen_t, bLen_l, bLen_s, bTup_t, bTup_l, blList_t, blList_l, bInt_i, bInt_t, bInt_f, bMin_i, dIsN_1, dIsN_2, seqL_l, seqL_c, dMod_i, dDiv_i, dMul_r, dMul_l, bLen_c, gc_same, pow12, dicS_d, dicO_1, keyO_s, keyO_i, dgK_1, dgK2_1, diK_1, diK2_f, diK2_t, valD_n, mergeD_n, mergeD_c, putD_n, ienK_1, ppNil_u, ppK_1, ppK2_1, ppK3_1, keysD_n, kdK_1, kdK2_1, ddK_1, ddK2_1, g2K_1, g2K1_1, g2K2_1, g2K3_1, g2K4_1, isDic_d, dpK_1, dpK1_1, dpK2_1, dpK3_1, dbK_1, dbK2_1, bdCopy_1, ddNew_u, dicS_r, dGet_u, dInK_u, valD_c, putD_c, iEnumD_u, ppCons_u, keysD_c, ddDisp_u, eGet2_u, sDput_u, ddCopy_u, List.map_cons, List.map_nil, List.length_cons, List.length_nil, List.cons_append, List.nil_append, List.append_nil, List.getElem?_cons_zero, List.getElem?_cons_succ, List.set_cons_zero, List.set_cons_succ, ofString_inj, ofString_beq, hi, atI_map, h1, cell]
  · simp [bodies, varK_1, eVar_u, eC_u, aNil_u, acK1_1, acK2_1, aCons_u, tupK_1, eTup_u, ldK_1, lDisp_u, eLK_1, eLMK_1, eL_u, eLM_u, eDiK_1, eDMK_1, eDi_u, eDM_u, opK1_1, opK2_1, opK3_1, eOp_u, negK_1, eNeg_u, slK1_1, slK2_1, slK3_1, slK4_1, ptSK_1, ptN_u, ptS_u, eSlice_u, callK_1, eCall_u, biK_1, blK_1, blK2_1, eBi_u, lBi_u, isiK_1, isiK2_1, eIsi_u, revK_1, revK2_1, lRev_u, andEK_1, andEK_2, orEK_1, orEK_2, notEK_1, orSK_1, ifEK_1, ifEK_2, tofK_1, eAnd_u, eOr_u, eNot_u, eOrS_u, eIf_u, tOf_u, chK1_1, chK2_1, chK3_1, chK3_2, eChain_u, tandK_1, tandK_2, torK_1, torK_2, tnotK_1, tTrue_u, tfAnd_u, tfOr_u, tfNot_u, lcK1_1, lcK2_1, lcK3_1, lcK3_2, lcK4_1, lcK5_1, lcD_n, lcD_c, aLc_u, wipeD_n, wipeD_c, gdName_u, gsK_1, gsNil_u, gdTup_u, gsCons_u, iseqK_1, iseqK2_1, itupK_1, istrK_1, irng1K_1, irng2K_1, seqP_1, seqP_2, iSeq_u, iTupD_u, iStrD_u, iRange1_u, iRange2_u, m1K_1, m1K2_1, m0K_1, s1K_1, eMeth1_u, eMeth0_u, eS1_u, setK_1, asgK_1, asgK2_1, retK_1, expK_1, seqK_1, seqK_2, seqK_3, ifK_1, ifK_2, forK_1, forD_n, forK2_1, forK3_1, forK3_2, forK3_3, fnK_1, fnK_2, gcK_1, sNext_u, sBrk_u, stK_1, stK0_1, stK1_1, stK2_1, sSet_u, sAsg_u, sRet_u, sExp_u, sSeq_u, sIf_u, sFor_u, forD_c, fnD_u, gcFn_u, sSetIx_u, dAdd_i, dAdd_s, dAdd_t, dAdd_l, dSub_i, dCmp_i, dEq_s, dEq_i, dEq_b, dNe_s, dNe_i, dNe_b, dIx_t, dIx_l, dIx_c, dSlice_t, dSlice_l, dSlice_c, dSlice_s, bLen_t, bLen_l, bLen_s, bTup_t, bTup_l, blList_t, blList_l, bInt_i, bInt_t, bInt_f, bMin_i, dIsN_1, dIsN_2, seqL_l, seqL_c, dMod_i, dDiv_i, dMul_r, dMul_l, bLen_c, gc_same, pow12, dicS_d, dicO_1, keyO_s, keyO_i, dgK_1, dgK2_1, diK_1, diK2_f, diK2_t, valD_n, mergeD_n, mergeD_c, putD_n, ienK_1, ppNil_u, ppK_1, ppK2_1, ppK3_1, keysD_n, kdK_1, kdK2_1, ddK_1, ddK2_1, g2K_1, g2K1_1, g2K2_1, g2K3_1, g2K4_1, isDic_d, dpK_1, dpK1_1, dpK2_1, dpK3_1, dbK_1, dbK2_1, bdCopy_1, ddNew_u, dicS_r, dGet_u, dInK_u, valD_c, putD_c, iEnumD_u, ppCons_u, keysD_c, ddDisp_u, eGet2_u, sDput_u, ddCopy_u, List.map_cons, List.map_nil, List.length_cons, List.length_nil, List.cons_append, List.nil_append, List.append_nil, List.getElem?_cons_zero, List.getElem?_cons_succ, List.set_cons_zero, List.set_cons_succ, ofString_inj, ofString_beq, hi, cell]
def mixed (n : Int) : Int := ((n * 48271 + 7919) % 2147483647 * ((n * 48271 + 7919) % 2147483647) + (n * 48271 + 7919) % 2147483647 / 7) % 2147483647
theorem mixed_b (n : Int) : 0 ≤ mixed n ∧ mixed n < 2147483647 := ⟨Int.emod_nonneg _ (by decide), Int.emod_lt_of_pos _ (by decide)⟩
theorem mixed_D {k : Nat} (hk : 1 ≤ k) (n : Int) (S : List O) : Fk k ._law_mixed [.int n] S = some (.int (mixed n), S) := by
  obtain ⟨k, rfl⟩ := lev hk
  rw [Fk_s]
  have h1 : 0 ≤ (n * 48271 + 7919) % 2147483647 := Int.emod_nonneg _ (by decide)
  have h2 : (n * 48271 + 7919) % 2147483647 < 2147483647 := Int.emod_lt_of_pos _ (by decide)
  have e2 : ∀ S, dMul (.int ((n * 48271 + 7919) % 2147483647)) (.int ((n * 48271 + 7919) % 2147483647)) S = some (.int ((n * 48271 + 7919) % 2147483647 * ((n * 48271 + 7919) % 2147483647))) := fun S => dMul_l (by omega)
  simp [bodies, varK_1, eVar_u, eC_u, aNil_u, acK1_1, acK2_1, aCons_u, tupK_1, eTup_u, ldK_1, lDisp_u, eLK_1, eLMK_1, eL_u, eLM_u, eDiK_1, eDMK_1, eDi_u, eDM_u, opK1_1, opK2_1, opK3_1, eOp_u, negK_1, eNeg_u, slK1_1, slK2_1, slK3_1, slK4_1, ptSK_1, ptN_u, ptS_u, eSlice_u, callK_1, eCall_u, biK_1, blK_1, blK2_1, eBi_u, lBi_u, isiK_1, isiK2_1, eIsi_u, revK_1, revK2_1, lRev_u, andEK_1, andEK_2, orEK_1, orEK_2, notEK_1, orSK_1, ifEK_1, ifEK_2, tofK_1, eAnd_u, eOr_u, eNot_u, eOrS_u, eIf_u, tOf_u, chK1_1, chK2_1, chK3_1, chK3_2, eChain_u, tandK_1, tandK_2, torK_1, torK_2, tnotK_1, tTrue_u, tfAnd_u, tfOr_u, tfNot_u, lcK1_1, lcK2_1, lcK3_1, lcK3_2, lcK4_1, lcK5_1, lcD_n, lcD_c, aLc_u, wipeD_n, wipeD_c, gdName_u, gsK_1, gsNil_u, gdTup_u, gsCons_u, iseqK_1, iseqK2_1, itupK_1, istrK_1, irng1K_1, irng2K_1, seqP_1, seqP_2, iSeq_u, iTupD_u, iStrD_u, iRange1_u, iRange2_u, m1K_1, m1K2_1, m0K_1, s1K_1, eMeth1_u, eMeth0_u, eS1_u, setK_1, asgK_1, asgK2_1, retK_1, expK_1, seqK_1, seqK_2, seqK_3, ifK_1, ifK_2, forK_1, forD_n, forK2_1, forK3_1, forK3_2, forK3_3, fnK_1, fnK_2, gcK_1, sNext_u, sBrk_u, stK_1, stK0_1, stK1_1, stK2_1, sSet_u, sAsg_u, sRet_u, sExp_u, sSeq_u, sIf_u, sFor_u, forD_c, fnD_u, gcFn_u, sSetIx_u, dAdd_i, dAdd_s, dAdd_t, dAdd_l, dSub_i, dCmp_i, dEq_s, dEq_i, dEq_b, dNe_s, dNe_i, dNe_b, dIx_t, dIx_l, dIx_c, dSlice_t, dSlice_l, dSlice_c, dSlice_s, bLen_t, bLen_l, bLen_s, bTup_t, bTup_l, blList_t, blList_l, bInt_i, bInt_t, bInt_f, bMin_i, dIsN_1, dIsN_2, seqL_l, seqL_c, dMod_i, dDiv_i, dMul_r, dMul_l, bLen_c, gc_same, pow12, dicS_d, dicO_1, keyO_s, keyO_i, dgK_1, dgK2_1, diK_1, diK2_f, diK2_t, valD_n, mergeD_n, mergeD_c, putD_n, ienK_1, ppNil_u, ppK_1, ppK2_1, ppK3_1, keysD_n, kdK_1, kdK2_1, ddK_1, ddK2_1, g2K_1, g2K1_1, g2K2_1, g2K3_1, g2K4_1, isDic_d, dpK_1, dpK1_1, dpK2_1, dpK3_1, dbK_1, dbK2_1, bdCopy_1, ddNew_u, dicS_r, dGet_u, dInK_u, valD_c, putD_c, iEnumD_u, ppCons_u, keysD_c, ddDisp_u, eGet2_u, sDput_u, ddCopy_u, List.map_cons, List.map_nil, List.length_cons, List.length_nil, List.cons_append, List.nil_append, List.append_nil, List.getElem?_cons_zero, List.getElem?_cons_succ, List.set_cons_zero, List.set_cons_succ, ofString_inj, ofString_beq, e2, mixed]
theorem mark_D {k : Nat} (hk : 1 ≤ k) (n : Int) (S : List O) : ∃ a, Fk k ._law_mark_by [.int n] S = some (.int a, S) ∧ 0 ≤ a ∧ a ≤ 9999 := by
  obtain ⟨k, rfl⟩ := lev hk
  rw [Fk_s]
  by_cases h : n % 2 = 0
  · exact ⟨n / 2 % 10000, by simp [bodies, varK_1, eVar_u, eC_u, aNil_u, acK1_1, acK2_1, aCons_u, tupK_1, eTup_u, ldK_1, lDisp_u, eLK_1, eLMK_1, eL_u, eLM_u, eDiK_1, eDMK_1, eDi_u, eDM_u, opK1_1, opK2_1, opK3_1, eOp_u, negK_1, eNeg_u, slK1_1, slK2_1, slK3_1, slK4_1, ptSK_1, ptN_u, ptS_u, eSlice_u, callK_1, eCall_u, biK_1, blK_1, blK2_1, eBi_u, lBi_u, isiK_1, isiK2_1, eIsi_u, revK_1, revK2_1, lRev_u, andEK_1, andEK_2, orEK_1, orEK_2, notEK_1, orSK_1, ifEK_1, ifEK_2, tofK_1, eAnd_u, eOr_u, eNot_u, eOrS_u, eIf_u, tOf_u, chK1_1, chK2_1, chK3_1, chK3_2, eChain_u, tandK_1, tandK_2, torK_1, torK_2, tnotK_1, tTrue_u, tfAnd_u, tfOr_u, tfNot_u, lcK1_1, lcK2_1, lcK3_1, lcK3_2, lcK4_1, lcK5_1, lcD_n, lcD_c, aLc_u, wipeD_n, wipeD_c, gdName_u, gsK_1, gsNil_u, gdTup_u, gsCons_u, iseqK_1, iseqK2_1, itupK_1, istrK_1, irng1K_1, irng2K_1, seqP_1, seqP_2, iSeq_u, iTupD_u, iStrD_u, iRange1_u, iRange2_u, m1K_1, m1K2_1, m0K_1, s1K_1, eMeth1_u, eMeth0_u, eS1_u, setK_1, asgK_1, asgK2_1, retK_1, expK_1, seqK_1, seqK_2, seqK_3, ifK_1, ifK_2, forK_1, forD_n, forK2_1, forK3_1, forK3_2, forK3_3, fnK_1, fnK_2, gcK_1, sNext_u, sBrk_u, stK_1, stK0_1, stK1_1, stK2_1, sSet_u, sAsg_u, sRet_u, sExp_u, sSeq_u, sIf_u, sFor_u, forD_c, fnD_u, gcFn_u, sSetIx_u, dAdd_i, dAdd_s, dAdd_t, dAdd_l, dSub_i, dCmp_i, dEq_s, dEq_i, dEq_b, dNe_s, dNe_i, dNe_b, dIx_t, dIx_l, dIx_c, dSlice_t, dSlice_l, dSlice_c, dSlice_s, bLen_t, bLen_l, bLen_s, bTup_t, bTup_l, blList_t, blList_l, bInt_i, bInt_t, bInt_f, bMin_i, dIsN_1, dIsN_2, seqL_l, seqL_c, dMod_i, dDiv_i, dMul_r, dMul_l, bLen_c, gc_same, pow12, dicS_d, dicO_1, keyO_s, keyO_i, dgK_1, dgK2_1, diK_1, diK2_f, diK2_t, valD_n, mergeD_n, mergeD_c, putD_n, ienK_1, ppNil_u, ppK_1, ppK2_1, ppK3_1, keysD_n, kdK_1, kdK2_1, ddK_1, ddK2_1, g2K_1, g2K1_1, g2K2_1, g2K3_1, g2K4_1, isDic_d, dpK_1, dpK1_1, dpK2_1, dpK3_1, dbK_1, dbK2_1, bdCopy_1, ddNew_u, dicS_r, dGet_u, dInK_u, valD_c, putD_c, iEnumD_u, ppCons_u, keysD_c, ddDisp_u, eGet2_u, sDput_u, ddCopy_u, List.map_cons, List.map_nil, List.length_cons, List.length_nil, List.cons_append, List.nil_append, List.append_nil, List.getElem?_cons_zero, List.getElem?_cons_succ, List.set_cons_zero, List.set_cons_succ, ofString_inj, ofString_beq, h], by omega, by omega⟩
  · exact ⟨n / 2 % 6, by simp [bodies, varK_1, eVar_u, eC_u, aNil_u, acK1_1, acK2_1, aCons_u, tupK_1, eTup_u, ldK_1, lDisp_u, eLK_1, eLMK_1, eL_u, eLM_u, eDiK_1, eDMK_1, eDi_u, eDM_u, opK1_1, opK2_1, opK3_1, eOp_u, negK_1, eNeg_u, slK1_1, slK2_1, slK3_1, slK4_1, ptSK_1, ptN_u, ptS_u, eSlice_u, callK_1, eCall_u, biK_1, blK_1, blK2_1, eBi_u, lBi_u, isiK_1, isiK2_1, eIsi_u, revK_1, revK2_1, lRev_u, andEK_1, andEK_2, orEK_1, orEK_2, notEK_1, orSK_1, ifEK_1, ifEK_2, tofK_1, eAnd_u, eOr_u, eNot_u, eOrS_u, eIf_u, tOf_u, chK1_1, chK2_1, chK3_1, chK3_2, eChain_u, tandK_1, tandK_2, torK_1, torK_2, tnotK_1, tTrue_u, tfAnd_u, tfOr_u, tfNot_u, lcK1_1, lcK2_1, lcK3_1, lcK3_2, lcK4_1, lcK5_1, lcD_n, lcD_c, aLc_u, wipeD_n, wipeD_c, gdName_u, gsK_1, gsNil_u, gdTup_u, gsCons_u, iseqK_1, iseqK2_1, itupK_1, istrK_1, irng1K_1, irng2K_1, seqP_1, seqP_2, iSeq_u, iTupD_u, iStrD_u, iRange1_u, iRange2_u, m1K_1, m1K2_1, m0K_1, s1K_1, eMeth1_u, eMeth0_u, eS1_u, setK_1, asgK_1, asgK2_1, retK_1, expK_1, seqK_1, seqK_2, seqK_3, ifK_1, ifK_2, forK_1, forD_n, forK2_1, forK3_1, forK3_2, forK3_3, fnK_1, fnK_2, gcK_1, sNext_u, sBrk_u, stK_1, stK0_1, stK1_1, stK2_1, sSet_u, sAsg_u, sRet_u, sExp_u, sSeq_u, sIf_u, sFor_u, forD_c, fnD_u, gcFn_u, sSetIx_u, dAdd_i, dAdd_s, dAdd_t, dAdd_l, dSub_i, dCmp_i, dEq_s, dEq_i, dEq_b, dNe_s, dNe_i, dNe_b, dIx_t, dIx_l, dIx_c, dSlice_t, dSlice_l, dSlice_c, dSlice_s, bLen_t, bLen_l, bLen_s, bTup_t, bTup_l, blList_t, blList_l, bInt_i, bInt_t, bInt_f, bMin_i, dIsN_1, dIsN_2, seqL_l, seqL_c, dMod_i, dDiv_i, dMul_r, dMul_l, bLen_c, gc_same, pow12, dicS_d, dicO_1, keyO_s, keyO_i, dgK_1, dgK2_1, diK_1, diK2_f, diK2_t, valD_n, mergeD_n, mergeD_c, putD_n, ienK_1, ppNil_u, ppK_1, ppK2_1, ppK3_1, keysD_n, kdK_1, kdK2_1, ddK_1, ddK2_1, g2K_1, g2K1_1, g2K2_1, g2K3_1, g2K4_1, isDic_d, dpK_1, dpK1_1, dpK2_1, dpK3_1, dbK_1, dbK2_1, bdCopy_1, ddNew_u, dicS_r, dGet_u, dInK_u, valD_c, putD_c, iEnumD_u, ppCons_u, keysD_c, ddDisp_u, eGet2_u, sDput_u, ddCopy_u, List.map_cons, List.map_nil, List.length_cons, List.length_nil, List.cons_append, List.nil_append, List.append_nil, List.getElem?_cons_zero, List.getElem?_cons_succ, List.set_cons_zero, List.set_cons_succ, ofString_inj, ofString_beq, h], by omega, by omega⟩
theorem range_lst (n : Nat) (f : Int → Nat) : (rangeD 0 n).map (fun d => match d with | .int i => D.str ⟨#[f i]⟩ | _ => .non) = ((List.range n).map fun (i : Nat) => f (i : Int)).map fun c => D.str ⟨#[c]⟩ := by
  unfold rangeD
  have e : ((n : Int) - 0).toNat = n := by omega
  rw [e]
  simp
theorem name_D {k : Nat} (hk : 1 ≤ k) (n : Int) (S : List O) : ∃ x, Fk k ._law_name_by [.int n] S = some (.str x, S) ∧ nmOk x := by
  obtain ⟨k, rfl⟩ := lev hk
  rw [Fk_s]
  by_cases h : n % 3 = 0
  · obtain ⟨c, h1, h2⟩ := letter_at S (i := n / 3 % 4) (by omega) (by omega)
    refine ⟨⟨#[c]⟩, by simp [bodies, varK_1, eVar_u, eC_u, aNil_u, acK1_1, acK2_1, aCons_u, tupK_1, eTup_u, ldK_1, lDisp_u, eLK_1, eLMK_1, eL_u, eLM_u, eDiK_1, eDMK_1, eDi_u, eDM_u, opK1_1, opK2_1, opK3_1, eOp_u, negK_1, eNeg_u, slK1_1, slK2_1, slK3_1, slK4_1, ptSK_1, ptN_u, ptS_u, eSlice_u, callK_1, eCall_u, biK_1, blK_1, blK2_1, eBi_u, lBi_u, isiK_1, isiK2_1, eIsi_u, revK_1, revK2_1, lRev_u, andEK_1, andEK_2, orEK_1, orEK_2, notEK_1, orSK_1, ifEK_1, ifEK_2, tofK_1, eAnd_u, eOr_u, eNot_u, eOrS_u, eIf_u, tOf_u, chK1_1, chK2_1, chK3_1, chK3_2, eChain_u, tandK_1, tandK_2, torK_1, torK_2, tnotK_1, tTrue_u, tfAnd_u, tfOr_u, tfNot_u, lcK1_1, lcK2_1, lcK3_1, lcK3_2, lcK4_1, lcK5_1, lcD_n, lcD_c, aLc_u, wipeD_n, wipeD_c, gdName_u, gsK_1, gsNil_u, gdTup_u, gsCons_u, iseqK_1, iseqK2_1, itupK_1, istrK_1, irng1K_1, irng2K_1, seqP_1, seqP_2, iSeq_u, iTupD_u, iStrD_u, iRange1_u, iRange2_u, m1K_1, m1K2_1, m0K_1, s1K_1, eMeth1_u, eMeth0_u, eS1_u, setK_1, asgK_1, asgK2_1, retK_1, expK_1, seqK_1, seqK_2, seqK_3, ifK_1, ifK_2, forK_1, forD_n, forK2_1, forK3_1, forK3_2, forK3_3, fnK_1, fnK_2, gcK_1, sNext_u, sBrk_u, stK_1, stK0_1, stK1_1, stK2_1, sSet_u, sAsg_u, sRet_u, sExp_u, sSeq_u, sIf_u, sFor_u, forD_c, fnD_u, gcFn_u, sSetIx_u, dAdd_i, dAdd_s, dAdd_t, dAdd_l, dSub_i, dCmp_i, dEq_s, dEq_i, dEq_b, dNe_s, dNe_i, dNe_b, dIx_t, dIx_l, dIx_c, dSlice_t, dSlice_l, dSlice_c, dSlice_s, bLen_t, bLen_l, bLen_s, bTup_t, bTup_l, blList_t, blList_l, bInt_i, bInt_t, bInt_f, bMin_i, dIsN_1, dIsN_2, seqL_l, seqL_c, dMod_i, dDiv_i, dMul_r, dMul_l, bLen_c, gc_same, pow12, dicS_d, dicO_1, keyO_s, keyO_i, dgK_1, dgK2_1, diK_1, diK2_f, diK2_t, valD_n, mergeD_n, mergeD_c, putD_n, ienK_1, ppNil_u, ppK_1, ppK2_1, ppK3_1, keysD_n, kdK_1, kdK2_1, ddK_1, ddK2_1, g2K_1, g2K1_1, g2K2_1, g2K3_1, g2K4_1, isDic_d, dpK_1, dpK1_1, dpK2_1, dpK3_1, dbK_1, dbK2_1, bdCopy_1, ddNew_u, dicS_r, dGet_u, dInK_u, valD_c, putD_c, iEnumD_u, ppCons_u, keysD_c, ddDisp_u, eGet2_u, sDput_u, ddCopy_u, List.map_cons, List.map_nil, List.length_cons, List.length_nil, List.cons_append, List.nil_append, List.append_nil, List.getElem?_cons_zero, List.getElem?_cons_succ, List.set_cons_zero, List.set_cons_succ, ofString_inj, ofString_beq, h, h1], ?_, ?_, ?_⟩
    · show 1 ≤ 1; decide
    · show 1 ≤ 8; decide
    · intro x hx
      have : x = c := by simpa using hx
      subst this; omega
  · -- the row of letters
    have hz : ∃ z : Nat, 1 + n / 3 % 8 = (z : Int) ∧ 1 ≤ z ∧ z ≤ 8 := ⟨(1 + n / 3 % 8).toNat, by omega, by omega, by omega⟩
    obtain ⟨z, ez, z1, z8⟩ := hz
    have hc : ∀ i : Int, ∃ c : Nat, (∀ S, dIx (.str "abcdefghijklmnopqrstuvwxyz") (.int ((n / 24 + 5 * i) % 26)) S = some (.str ⟨#[c]⟩)) ∧ 97 ≤ c ∧ c ≤ 122 := fun i => by
      obtain ⟨c, h1, h2⟩ := letter_at S (i := (n / 24 + 5 * i) % 26) (by omega) (by omega)
      exact ⟨c, fun S' => by rw [← h1]; rfl, h2⟩
    obtain ⟨f, hf⟩ : ∃ f : Int → Nat, ∀ i, (∀ S, dIx (.str "abcdefghijklmnopqrstuvwxyz") (.int ((n / 24 + 5 * i) % 26)) S = some (.str ⟨#[f i]⟩)) ∧ 97 ≤ f i ∧ f i ≤ 122 := ⟨fun i => (hc i).choose, fun i => (hc i).choose_spec⟩
    have hl : lcD (gdName 5) tTrue (eOp dIx (eVar 1) (eOp (dInt gMod) (eOp dAdd (eOp (dInt gDiv) (eVar 0) (eC (.int 24))) (eOp dMul (eC (.int 5)) (eVar 5))) (eC (.int 26))))
        [some (.int n), some (.str "abcdefghijklmnopqrstuvwxyz"), some (.int (z : Int)), none, none, none] (rangeD 0 z) S = some (((List.range z).map fun (i : Nat) => f (i : Int)).map fun c => D.str ⟨#[c]⟩, S) := by
      rw [← range_lst]
      refine lcD_map _ fun d hd => ?_
      unfold rangeD at hd
      obtain ⟨i, _, e⟩ := List.mem_map.mp hd
      subst e
      simp [varK_1, eVar_u, eC_u, aNil_u, acK1_1, acK2_1, aCons_u, tupK_1, eTup_u, ldK_1, lDisp_u, eLK_1, eLMK_1, eL_u, eLM_u, eDiK_1, eDMK_1, eDi_u, eDM_u, opK1_1, opK2_1, opK3_1, eOp_u, negK_1, eNeg_u, slK1_1, slK2_1, slK3_1, slK4_1, ptSK_1, ptN_u, ptS_u, eSlice_u, callK_1, eCall_u, biK_1, blK_1, blK2_1, eBi_u, lBi_u, isiK_1, isiK2_1, eIsi_u, revK_1, revK2_1, lRev_u, andEK_1, andEK_2, orEK_1, orEK_2, notEK_1, orSK_1, ifEK_1, ifEK_2, tofK_1, eAnd_u, eOr_u, eNot_u, eOrS_u, eIf_u, tOf_u, chK1_1, chK2_1, chK3_1, chK3_2, eChain_u, tandK_1, tandK_2, torK_1, torK_2, tnotK_1, tTrue_u, tfAnd_u, tfOr_u, tfNot_u, lcK1_1, lcK2_1, lcK3_1, lcK3_2, lcK4_1, lcK5_1, lcD_n, lcD_c, aLc_u, wipeD_n, wipeD_c, gdName_u, gsK_1, gsNil_u, gdTup_u, gsCons_u, iseqK_1, iseqK2_1, itupK_1, istrK_1, irng1K_1, irng2K_1, seqP_1, seqP_2, iSeq_u, iTupD_u, iStrD_u, iRange1_u, iRange2_u, m1K_1, m1K2_1, m0K_1, s1K_1, eMeth1_u, eMeth0_u, eS1_u, setK_1, asgK_1, asgK2_1, retK_1, expK_1, seqK_1, seqK_2, seqK_3, ifK_1, ifK_2, forK_1, forD_n, forK2_1, forK3_1, forK3_2, forK3_3, fnK_1, fnK_2, gcK_1, sNext_u, sBrk_u, stK_1, stK0_1, stK1_1, stK2_1, sSet_u, sAsg_u, sRet_u, sExp_u, sSeq_u, sIf_u, sFor_u, forD_c, fnD_u, gcFn_u, sSetIx_u, dAdd_i, dAdd_s, dAdd_t, dAdd_l, dSub_i, dCmp_i, dEq_s, dEq_i, dEq_b, dNe_s, dNe_i, dNe_b, dIx_t, dIx_l, dIx_c, dSlice_t, dSlice_l, dSlice_c, dSlice_s, bLen_t, bLen_l, bLen_s, bTup_t, bTup_l, blList_t, blList_l, bInt_i, bInt_t, bInt_f, bMin_i, dIsN_1, dIsN_2, seqL_l, seqL_c, dMod_i, dDiv_i, dMul_r, dMul_l, bLen_c, gc_same, pow12, dicS_d, dicO_1, keyO_s, keyO_i, dgK_1, dgK2_1, diK_1, diK2_f, diK2_t, valD_n, mergeD_n, mergeD_c, putD_n, ienK_1, ppNil_u, ppK_1, ppK2_1, ppK3_1, keysD_n, kdK_1, kdK2_1, ddK_1, ddK2_1, g2K_1, g2K1_1, g2K2_1, g2K3_1, g2K4_1, isDic_d, dpK_1, dpK1_1, dpK2_1, dpK3_1, dbK_1, dbK2_1, bdCopy_1, ddNew_u, dicS_r, dGet_u, dInK_u, valD_c, putD_c, iEnumD_u, ppCons_u, keysD_c, ddDisp_u, eGet2_u, sDput_u, ddCopy_u, List.map_cons, List.map_nil, List.length_cons, List.length_nil, List.cons_append, List.nil_append, List.append_nil, List.getElem?_cons_zero, List.getElem?_cons_succ, List.set_cons_zero, List.set_cons_succ, ofString_inj, ofString_beq, (hf _).1]
    obtain ⟨c, h1, h2⟩ := letter_at S (i := n / 5 % 26) (by omega) (by omega)
    have hrow := join_cps ((List.range z).map fun (i : Nat) => f (i : Int))
    have hj := dJoin_ones S ((List.range z).map fun (i : Nat) => f (i : Int)) (by simp; omega)
    generalize Txt.join "" (((List.range z).map fun (i : Nat) => f (i : Int)).map fun c => (⟨#[c]⟩ : Str)) = row at hrow hj
    generalize (((List.range z).map fun (i : Nat) => f (i : Int)).map fun c => D.str ⟨#[c]⟩) = L at hl hj
    have rl : row.length = z := by rw [str_len, hrow]; simp
    have ra : ∀ c ∈ row.cps.toList, 97 ≤ c ∧ c ≤ 122 := by
      intro c hc
      rw [hrow] at hc
      obtain ⟨i, _, e⟩ := List.mem_map.mp hc
      subst e
      exact (hf _).2
    have hd : ∃ a : Nat, n / 624 % (z : Int) = (a : Int) ∧ a < z := by
      have q1 := Int.emod_nonneg (n / 624) (show (z : Int) ≠ 0 by omega)
      have q2 := Int.emod_lt_of_pos (n / 624) (show (0 : Int) < z by omega)
      exact ⟨(n / 624 % (z : Int)).toNat, by omega, by omega⟩
    obtain ⟨a, ea, az⟩ := hd
    have c1 : (cutS row none (some (a : Int))).cps.toList = row.cps.toList.take a := by
      rw [cutS_cps]
      unfold cutD
      rw [← str_len, rl, HT.sIx_none, HT.sIx_nat]
      simp
      omega
    have c2 : (cutS row (some ((a : Int) + 1)) none).cps.toList = row.cps.toList.drop (a + 1) := by
      rw [cutS_cps]
      unfold cutD
      have e : (a : Int) + 1 = ((a + 1 : Nat) : Int) := by omega
      rw [← str_len, rl, HT.sIx_none, e, HT.sIx_nat]
      have e2 : min (a + 1) z = a + 1 := by omega
      rw [e2]
      apply List.take_of_length_le
      rw [List.length_drop, ← str_len, rl]
      omega
    have l1 : (cutS row none (some (a : Int))).length = a := by rw [str_len, c1, List.length_take, ← str_len, rl]; omega
    have l2 : (cutS row (some ((a : Int) + 1)) none).length = z - (a + 1) := by rw [str_len, c2, List.length_drop, ← str_len, rl]
    have lc : (⟨#[c]⟩ : Str).length = 1 := rfl
    have l3 : (cutS row none (some (a : Int)) ++ (⟨#[c]⟩ : Str)).length = a + 1 := by rw [str_len, app_cps, List.length_append, ← str_len, ← str_len, l1, lc]
    refine ⟨cutS row none (some (a : Int)) ++ ⟨#[c]⟩ ++ cutS row (some ((a : Int) + 1)) none, ?_, ?_, ?_, ?_⟩
    · have zb : (z : Int) < 4611686018427387904 := by omega
      have zp : (0 : Int) < (z : Int) := by omega
      have zq : z ≤ 10000000 := by omega
      have zn : 0 < z := by omega
      have g1 : z ≤ 16777216 := by omega
      have g2 : a + 1 ≤ 16777216 := by omega
      have g3 : a + 1 + (z - (a + 1)) ≤ 16777216 := by omega
      simp [bodies, varK_1, eVar_u, eC_u, aNil_u, acK1_1, acK2_1, aCons_u, tupK_1, eTup_u, ldK_1, lDisp_u, eLK_1, eLMK_1, eL_u, eLM_u, eDiK_1, eDMK_1, eDi_u, eDM_u, opK1_1, opK2_1, opK3_1, eOp_u, negK_1, eNeg_u, slK1_1, slK2_1, slK3_1, slK4_1, ptSK_1, ptN_u, ptS_u, eSlice_u, callK_1, eCall_u, biK_1, blK_1, blK2_1, eBi_u, lBi_u, isiK_1, isiK2_1, eIsi_u, revK_1, revK2_1, lRev_u, andEK_1, andEK_2, orEK_1, orEK_2, notEK_1, orSK_1, ifEK_1, ifEK_2, tofK_1, eAnd_u, eOr_u, eNot_u, eOrS_u, eIf_u, tOf_u, chK1_1, chK2_1, chK3_1, chK3_2, eChain_u, tandK_1, tandK_2, torK_1, torK_2, tnotK_1, tTrue_u, tfAnd_u, tfOr_u, tfNot_u, lcK1_1, lcK2_1, lcK3_1, lcK3_2, lcK4_1, lcK5_1, lcD_n, lcD_c, aLc_u, wipeD_n, wipeD_c, gdName_u, gsK_1, gsNil_u, gdTup_u, gsCons_u, iseqK_1, iseqK2_1, itupK_1, istrK_1, irng1K_1, irng2K_1, seqP_1, seqP_2, iSeq_u, iTupD_u, iStrD_u, iRange1_u, iRange2_u, m1K_1, m1K2_1, m0K_1, s1K_1, eMeth1_u, eMeth0_u, eS1_u, setK_1, asgK_1, asgK2_1, retK_1, expK_1, seqK_1, seqK_2, seqK_3, ifK_1, ifK_2, forK_1, forD_n, forK2_1, forK3_1, forK3_2, forK3_3, fnK_1, fnK_2, gcK_1, sNext_u, sBrk_u, stK_1, stK0_1, stK1_1, stK2_1, sSet_u, sAsg_u, sRet_u, sExp_u, sSeq_u, sIf_u, sFor_u, forD_c, fnD_u, gcFn_u, sSetIx_u, dAdd_i, dAdd_s, dAdd_t, dAdd_l, dSub_i, dCmp_i, dEq_s, dEq_i, dEq_b, dNe_s, dNe_i, dNe_b, dIx_t, dIx_l, dIx_c, dSlice_t, dSlice_l, dSlice_c, dSlice_s, bLen_t, bLen_l, bLen_s, bTup_t, bTup_l, blList_t, blList_l, bInt_i, bInt_t, bInt_f, bMin_i, dIsN_1, dIsN_2, seqL_l, seqL_c, dMod_i, dDiv_i, dMul_r, dMul_l, bLen_c, gc_same, pow12, dicS_d, dicO_1, keyO_s, keyO_i, dgK_1, dgK2_1, diK_1, diK2_f, diK2_t, valD_n, mergeD_n, mergeD_c, putD_n, ienK_1, ppNil_u, ppK_1, ppK2_1, ppK3_1, keysD_n, kdK_1, kdK2_1, ddK_1, ddK2_1, g2K_1, g2K1_1, g2K2_1, g2K3_1, g2K4_1, isDic_d, dpK_1, dpK1_1, dpK2_1, dpK3_1, dbK_1, dbK2_1, bdCopy_1, ddNew_u, dicS_r, dGet_u, dInK_u, valD_c, putD_c, iEnumD_u, ppCons_u, keysD_c, ddDisp_u, eGet2_u, sDput_u, ddCopy_u, List.map_cons, List.map_nil, List.length_cons, List.length_nil, List.cons_append, List.nil_append, List.append_nil, List.getElem?_cons_zero, List.getElem?_cons_succ, List.set_cons_zero, List.set_cons_succ, ofString_inj, ofString_beq, h, ez, ea, hl, hj, h1, rl, l1, l2, l3, lc, sizeLine_eq, zb, zp, zq, zn, rangeD_len, g1, g2, g3]
    · rw [str_len, app_cps, List.length_append, ← str_len, ← str_len, l3, l2]; omega
    · rw [str_len, app_cps, List.length_append, ← str_len, ← str_len, l3, l2]; omega
    · intro x hx
      rw [app_cps, app_cps, c1, c2] at hx
      rcases List.mem_append.mp hx with hx | hx
      · rcases List.mem_append.mp hx with hx | hx
        · exact ra x (List.mem_of_mem_take hx)
        · have : x = c := by simpa using hx
          subst this; omega
      · exact ra x (List.mem_of_mem_drop hx)
/-! ## what is drawn -/
def markOk (a : Int) : Prop := 0 ≤ a ∧ a ≤ 9999
def wf : Pc → List Str → Prop
  | .num n, _ => -1000000000000 < n ∧ n < 1000000000000
  | .name x, sc => x ∈ sc ∧ nmOk x
  | .fn a x b, sc => markOk a ∧ nmOk x ∧ wf b (x :: sc)
  | .call a f g, sc => markOk a ∧ wf f sc ∧ wf g sc
  | .plus a f g, sc => markOk a ∧ wf f sc ∧ wf g sc
  | .pick a c f g, sc => markOk a ∧ wf c sc ∧ wf f sc ∧ wf g sc
  | .rnd b, sc => wf b sc
  | .take a x b, sc => markOk a ∧ nmOk x ∧ wf b (x :: sc)
  | .shut .., _ => False
  | .kept .., _ => False
def kn : Pc → Nat
  | .fn _ _ b => kn b + 1
  | .call _ f g => kn f + kn g + 1
  | .plus _ f g => kn f + kn g + 1
  | .pick _ c f g => kn c + kn f + kn g + 1
  | .rnd b => kn b + 1
  | .take _ _ b => kn b + 1
  | _ => 1
theorem kn_pos : ∀ p : Pc, 1 ≤ kn p := by intro p; cases p <;> simp [kn]
def sD (sc : List Str) : D := .lst (sc.map D.str)
def StS (S : List O) (j : Nat) (s : Int) : List O := S.set j (.lst [.int s])
theorem StS_len (S : List O) (j : Nat) (s : Int) : (StS S j s).length = S.length := List.length_set
theorem StS_ok {S : List O} (h : okS S) (j : Nat) (s : Int) : okS (StS S j s) := okS_set h j s
theorem StS_ix {S : List O} {j : Nat} (h : j < S.length) (s : Int) : dIx (.ref j) (.int 0) (StS S j s) = some (.int s) := by
  unfold dIx StS
  simp [seqL, h, atI, ixN]
theorem StS_put {S : List O} {j : Nat} (h : j < S.length) (s v : Int) : setO (StS S j s) (.ref j) (stF (.int v) 0) = some (StS S j v) := by
  unfold setO StS
  simp [h, stF, ixN]
theorem dNe_nil {sc : List Str} (h : ∀ x ∈ sc, nmOk x) (S : List O) : dNe 64 (sD sc) (.lst []) S = some (.bl (!sc.isEmpty)) := by
  have e : ∀ sc : List Str, (∀ x ∈ sc, nmOk x) → PyData.canLayAll0 (pyL (sc.map D.str)) = true := by
    intro sc
    induction sc with
    | nil => intro _; rfl
    | cons x sc ih =>
      intro h
      simp only [List.map_cons, pyL, py, PyData.canLayAll0, PyData.canLay0, Bool.and_eq_true]
      exact ⟨nm_strOk (h x List.mem_cons_self), ih fun y hy => h y (List.mem_cons_of_mem _ hy)⟩
  unfold dNe dEqv sD
  simp only [pyS, py, PyData.canLay0, e sc h, pyL, PyData.canLayAll0, PyData.depth, PyData.depthAll]
  rw [if_pos ⟨trivial, trivial, by omega⟩]
  cases sc <;> simp [PyData.eqv, PyData.eqvAll, pyL]
theorem sD_cons (x : Str) (sc : List Str) : D.lst (D.str x :: sc.map D.str) = sD (x :: sc) := rfl
theorem sD_ix {sc : List Str} {i : Int} (h0 : 0 ≤ i) (h1 : i < sc.length) : ∃ x, x ∈ sc ∧ ∀ S, dIx (sD sc) (.int i) S = some (.str x) := by
  obtain ⟨x, h2, h3⟩ := atI_in h0 h1
  exact ⟨x, h3, fun S => by show atI (sc.map D.str) i = _; rw [atI_map, h2]; rfl⟩
theorem sD_len (sc : List Str) (S : List O) : bLen [sD sc] S = some (.int sc.length) := by
  show some (D.int ((sc.map D.str).length : Int)) = _
  rw [List.length_map]
theorem sD_add (x : Str) (sc : List Str) (h : sc.length ≤ 1000) (S : List O) : dAdd (.lst [.str x]) (sD sc) S = some (sD (x :: sc)) := by
  unfold sD
  rw [dAdd_l, if_pos (by simp; have := le_size (n := 1 + sc.length) ; rw [sizeLine_eq]; omega)]
  rfl
theorem leaf_D {k : Nat} (hk : 1 ≤ k) (n : Int) (h0 : 0 ≤ n) (sc : List Str) (hs : ∀ x ∈ sc, nmOk x) (S : List O) : ∃ p : Pc, Fk k ._law_leaf [.int n, sD sc] S = some (p.d, S) ∧ wf p sc ∧ cd p = 1 ∧ kn p = 1 := by
  obtain ⟨k, rfl⟩ := lev hk
  rw [Fk_s]
  have en := dNe_nil hs
  have num2 : ∃ p : Pc, (b__law_leaf (Fk k)) [some (.int n), some (sD sc)] S = some (.rt p.d S) ∧ wf p sc ∧ cd p = 1 ∧ kn p = 1 ∨ (sc.isEmpty = false ∧ n % 3 > 0) := by
    by_cases hc : sc.isEmpty = false ∧ n % 3 > 0
    · exact ⟨.num 0, .inr hc⟩
    · by_cases h11 : n % 11 = 0
      · refine ⟨.num (n * 65537 % (2 * 10 ^ 12 - 1) - 10 ^ 12 + 1), .inl ⟨?_, ?_, rfl, rfl⟩⟩
        · cases he : sc.isEmpty with
          | true => simp [varK_1, eVar_u, eC_u, aNil_u, acK1_1, acK2_1, aCons_u, tupK_1, eTup_u, ldK_1, lDisp_u, eLK_1, eLMK_1, eL_u, eLM_u, eDiK_1, eDMK_1, eDi_u, eDM_u, opK1_1, opK2_1, opK3_1, eOp_u, negK_1, eNeg_u, slK1_1, slK2_1, slK3_1, slK4_1, ptSK_1, ptN_u, ptS_u, eSlice_u, callK_1, eCall_u, biK_1, blK_1, blK2_1, eBi_u, lBi_u, isiK_1, isiK2_1, eIsi_u, revK_1, revK2_1, lRev_u, andEK_1, andEK_2, orEK_1, orEK_2, notEK_1, orSK_1, ifEK_1, ifEK_2, tofK_1, eAnd_u, eOr_u, eNot_u, eOrS_u, eIf_u, tOf_u, chK1_1, chK2_1, chK3_1, chK3_2, eChain_u, tandK_1, tandK_2, torK_1, torK_2, tnotK_1, tTrue_u, tfAnd_u, tfOr_u, tfNot_u, lcK1_1, lcK2_1, lcK3_1, lcK3_2, lcK4_1, lcK5_1, lcD_n, lcD_c, aLc_u, wipeD_n, wipeD_c, gdName_u, gsK_1, gsNil_u, gdTup_u, gsCons_u, iseqK_1, iseqK2_1, itupK_1, istrK_1, irng1K_1, irng2K_1, seqP_1, seqP_2, iSeq_u, iTupD_u, iStrD_u, iRange1_u, iRange2_u, m1K_1, m1K2_1, m0K_1, s1K_1, eMeth1_u, eMeth0_u, eS1_u, setK_1, asgK_1, asgK2_1, retK_1, expK_1, seqK_1, seqK_2, seqK_3, ifK_1, ifK_2, forK_1, forD_n, forK2_1, forK3_1, forK3_2, forK3_3, fnK_1, fnK_2, gcK_1, sNext_u, sBrk_u, stK_1, stK0_1, stK1_1, stK2_1, sSet_u, sAsg_u, sRet_u, sExp_u, sSeq_u, sIf_u, sFor_u, forD_c, fnD_u, gcFn_u, sSetIx_u, dAdd_i, dAdd_s, dAdd_t, dAdd_l, dSub_i, dCmp_i, dEq_s, dEq_i, dEq_b, dNe_s, dNe_i, dNe_b, dIx_t, dIx_l, dIx_c, dSlice_t, dSlice_l, dSlice_c, dSlice_s, bLen_t, bLen_l, bLen_s, bTup_t, bTup_l, blList_t, blList_l, bInt_i, bInt_t, bInt_f, bMin_i, dIsN_1, dIsN_2, seqL_l, seqL_c, dMod_i, dDiv_i, dMul_r, dMul_l, bLen_c, gc_same, pow12, dicS_d, dicO_1, keyO_s, keyO_i, dgK_1, dgK2_1, diK_1, diK2_f, diK2_t, valD_n, mergeD_n, mergeD_c, putD_n, ienK_1, ppNil_u, ppK_1, ppK2_1, ppK3_1, keysD_n, kdK_1, kdK2_1, ddK_1, ddK2_1, g2K_1, g2K1_1, g2K2_1, g2K3_1, g2K4_1, isDic_d, dpK_1, dpK1_1, dpK2_1, dpK3_1, dbK_1, dbK2_1, bdCopy_1, ddNew_u, dicS_r, dGet_u, dInK_u, valD_c, putD_c, iEnumD_u, ppCons_u, keysD_c, ddDisp_u, eGet2_u, sDput_u, ddCopy_u, List.map_cons, List.map_nil, List.length_cons, List.length_nil, List.cons_append, List.nil_append, List.append_nil, List.getElem?_cons_zero, List.getElem?_cons_succ, List.set_cons_zero, List.set_cons_succ, ofString_inj, ofString_beq, en, he, h11, Pc.d]
          | false =>
            have h3 : ¬ n % 3 > 0 := fun z => hc ⟨he, z⟩
            simp [varK_1, eVar_u, eC_u, aNil_u, acK1_1, acK2_1, aCons_u, tupK_1, eTup_u, ldK_1, lDisp_u, eLK_1, eLMK_1, eL_u, eLM_u, eDiK_1, eDMK_1, eDi_u, eDM_u, opK1_1, opK2_1, opK3_1, eOp_u, negK_1, eNeg_u, slK1_1, slK2_1, slK3_1, slK4_1, ptSK_1, ptN_u, ptS_u, eSlice_u, callK_1, eCall_u, biK_1, blK_1, blK2_1, eBi_u, lBi_u, isiK_1, isiK2_1, eIsi_u, revK_1, revK2_1, lRev_u, andEK_1, andEK_2, orEK_1, orEK_2, notEK_1, orSK_1, ifEK_1, ifEK_2, tofK_1, eAnd_u, eOr_u, eNot_u, eOrS_u, eIf_u, tOf_u, chK1_1, chK2_1, chK3_1, chK3_2, eChain_u, tandK_1, tandK_2, torK_1, torK_2, tnotK_1, tTrue_u, tfAnd_u, tfOr_u, tfNot_u, lcK1_1, lcK2_1, lcK3_1, lcK3_2, lcK4_1, lcK5_1, lcD_n, lcD_c, aLc_u, wipeD_n, wipeD_c, gdName_u, gsK_1, gsNil_u, gdTup_u, gsCons_u, iseqK_1, iseqK2_1, itupK_1, istrK_1, irng1K_1, irng2K_1, seqP_1, seqP_2, iSeq_u, iTupD_u, iStrD_u, iRange1_u, iRange2_u, m1K_1, m1K2_1, m0K_1, s1K_1, eMeth1_u, eMeth0_u, eS1_u, setK_1, asgK_1, asgK2_1, retK_1, expK_1, seqK_1, seqK_2, seqK_3, ifK_1, ifK_2, forK_1, forD_n, forK2_1, forK3_1, forK3_2, forK3_3, fnK_1, fnK_2, gcK_1, sNext_u, sBrk_u, stK_1, stK0_1, stK1_1, stK2_1, sSet_u, sAsg_u, sRet_u, sExp_u, sSeq_u, sIf_u, sFor_u, forD_c, fnD_u, gcFn_u, sSetIx_u, dAdd_i, dAdd_s, dAdd_t, dAdd_l, dSub_i, dCmp_i, dEq_s, dEq_i, dEq_b, dNe_s, dNe_i, dNe_b, dIx_t, dIx_l, dIx_c, dSlice_t, dSlice_l, dSlice_c, dSlice_s, bLen_t, bLen_l, bLen_s, bTup_t, bTup_l, blList_t, blList_l, bInt_i, bInt_t, bInt_f, bMin_i, dIsN_1, dIsN_2, seqL_l, seqL_c, dMod_i, dDiv_i, dMul_r, dMul_l, bLen_c, gc_same, pow12, dicS_d, dicO_1, keyO_s, keyO_i, dgK_1, dgK2_1, diK_1, diK2_f, diK2_t, valD_n, mergeD_n, mergeD_c, putD_n, ienK_1, ppNil_u, ppK_1, ppK2_1, ppK3_1, keysD_n, kdK_1, kdK2_1, ddK_1, ddK2_1, g2K_1, g2K1_1, g2K2_1, g2K3_1, g2K4_1, isDic_d, dpK_1, dpK1_1, dpK2_1, dpK3_1, dbK_1, dbK2_1, bdCopy_1, ddNew_u, dicS_r, dGet_u, dInK_u, valD_c, putD_c, iEnumD_u, ppCons_u, keysD_c, ddDisp_u, eGet2_u, sDput_u, ddCopy_u, List.map_cons, List.map_nil, List.length_cons, List.length_nil, List.cons_append, List.nil_append, List.append_nil, List.getElem?_cons_zero, List.getElem?_cons_succ, List.set_cons_zero, List.set_cons_succ, ofString_inj, ofString_beq, en, he, h11, Pc.d, h3]
        · show _ < _ ∧ _ < _
          have q1 := Int.emod_nonneg (n * 65537) (show (2 * 10 ^ 12 - 1 : Int) ≠ 0 by decide)
          have q2 := Int.emod_lt_of_pos (n * 65537) (show (0 : Int) < 2 * 10 ^ 12 - 1 by decide)
          have q3 : (10 : Int) ^ 12 = 1000000000000 := by decide
          rw [q3] at q1 q2 ⊢
          omega
      · refine ⟨.num (n / 3 % 7 - 2), .inl ⟨?_, ?_, rfl, rfl⟩⟩
        · cases he : sc.isEmpty with
          | true => simp [varK_1, eVar_u, eC_u, aNil_u, acK1_1, acK2_1, aCons_u, tupK_1, eTup_u, ldK_1, lDisp_u, eLK_1, eLMK_1, eL_u, eLM_u, eDiK_1, eDMK_1, eDi_u, eDM_u, opK1_1, opK2_1, opK3_1, eOp_u, negK_1, eNeg_u, slK1_1, slK2_1, slK3_1, slK4_1, ptSK_1, ptN_u, ptS_u, eSlice_u, callK_1, eCall_u, biK_1, blK_1, blK2_1, eBi_u, lBi_u, isiK_1, isiK2_1, eIsi_u, revK_1, revK2_1, lRev_u, andEK_1, andEK_2, orEK_1, orEK_2, notEK_1, orSK_1, ifEK_1, ifEK_2, tofK_1, eAnd_u, eOr_u, eNot_u, eOrS_u, eIf_u, tOf_u, chK1_1, chK2_1, chK3_1, chK3_2, eChain_u, tandK_1, tandK_2, torK_1, torK_2, tnotK_1, tTrue_u, tfAnd_u, tfOr_u, tfNot_u, lcK1_1, lcK2_1, lcK3_1, lcK3_2, lcK4_1, lcK5_1, lcD_n, lcD_c, aLc_u, wipeD_n, wipeD_c, gdName_u, gsK_1, gsNil_u, gdTup_u, gsCons_u, iseqK_1, iseqK2_1, itupK_1, istrK_1, irng1K_1, irng2K_1, seqP_1, seqP_2, iSeq_u, iTupD_u, iStrD_u, iRange1_u, iRange2_u, m1K_1, m1K2_1, m0K_1, s1K_1, eMeth1_u, eMeth0_u, eS1_u, setK_1, asgK_1, asgK2_1, retK_1, expK_1, seqK_1, seqK_2, seqK_3, ifK_1, ifK_2, forK_1, forD_n, forK2_1, forK3_1, forK3_2, forK3_3, fnK_1, fnK_2, gcK_1, sNext_u, sBrk_u, stK_1, stK0_1, stK1_1, stK2_1, sSet_u, sAsg_u, sRet_u, sExp_u, sSeq_u, sIf_u, sFor_u, forD_c, fnD_u, gcFn_u, sSetIx_u, dAdd_i, dAdd_s, dAdd_t, dAdd_l, dSub_i, dCmp_i, dEq_s, dEq_i, dEq_b, dNe_s, dNe_i, dNe_b, dIx_t, dIx_l, dIx_c, dSlice_t, dSlice_l, dSlice_c, dSlice_s, bLen_t, bLen_l, bLen_s, bTup_t, bTup_l, blList_t, blList_l, bInt_i, bInt_t, bInt_f, bMin_i, dIsN_1, dIsN_2, seqL_l, seqL_c, dMod_i, dDiv_i, dMul_r, dMul_l, bLen_c, gc_same, pow12, dicS_d, dicO_1, keyO_s, keyO_i, dgK_1, dgK2_1, diK_1, diK2_f, diK2_t, valD_n, mergeD_n, mergeD_c, putD_n, ienK_1, ppNil_u, ppK_1, ppK2_1, ppK3_1, keysD_n, kdK_1, kdK2_1, ddK_1, ddK2_1, g2K_1, g2K1_1, g2K2_1, g2K3_1, g2K4_1, isDic_d, dpK_1, dpK1_1, dpK2_1, dpK3_1, dbK_1, dbK2_1, bdCopy_1, ddNew_u, dicS_r, dGet_u, dInK_u, valD_c, putD_c, iEnumD_u, ppCons_u, keysD_c, ddDisp_u, eGet2_u, sDput_u, ddCopy_u, List.map_cons, List.map_nil, List.length_cons, List.length_nil, List.cons_append, List.nil_append, List.append_nil, List.getElem?_cons_zero, List.getElem?_cons_succ, List.set_cons_zero, List.set_cons_succ, ofString_inj, ofString_beq, en, he, h11, Pc.d]
          | false =>
            have h3 : ¬ n % 3 > 0 := fun z => hc ⟨he, z⟩
            simp [varK_1, eVar_u, eC_u, aNil_u, acK1_1, acK2_1, aCons_u, tupK_1, eTup_u, ldK_1, lDisp_u, eLK_1, eLMK_1, eL_u, eLM_u, eDiK_1, eDMK_1, eDi_u, eDM_u, opK1_1, opK2_1, opK3_1, eOp_u, negK_1, eNeg_u, slK1_1, slK2_1, slK3_1, slK4_1, ptSK_1, ptN_u, ptS_u, eSlice_u, callK_1, eCall_u, biK_1, blK_1, blK2_1, eBi_u, lBi_u, isiK_1, isiK2_1, eIsi_u, revK_1, revK2_1, lRev_u, andEK_1, andEK_2, orEK_1, orEK_2, notEK_1, orSK_1, ifEK_1, ifEK_2, tofK_1, eAnd_u, eOr_u, eNot_u, eOrS_u, eIf_u, tOf_u, chK1_1, chK2_1, chK3_1, chK3_2, eChain_u, tandK_1, tandK_2, torK_1, torK_2, tnotK_1, tTrue_u, tfAnd_u, tfOr_u, tfNot_u, lcK1_1, lcK2_1, lcK3_1, lcK3_2, lcK4_1, lcK5_1, lcD_n, lcD_c, aLc_u, wipeD_n, wipeD_c, gdName_u, gsK_1, gsNil_u, gdTup_u, gsCons_u, iseqK_1, iseqK2_1, itupK_1, istrK_1, irng1K_1, irng2K_1, seqP_1, seqP_2, iSeq_u, iTupD_u, iStrD_u, iRange1_u, iRange2_u, m1K_1, m1K2_1, m0K_1, s1K_1, eMeth1_u, eMeth0_u, eS1_u, setK_1, asgK_1, asgK2_1, retK_1, expK_1, seqK_1, seqK_2, seqK_3, ifK_1, ifK_2, forK_1, forD_n, forK2_1, forK3_1, forK3_2, forK3_3, fnK_1, fnK_2, gcK_1, sNext_u, sBrk_u, stK_1, stK0_1, stK1_1, stK2_1, sSet_u, sAsg_u, sRet_u, sExp_u, sSeq_u, sIf_u, sFor_u, forD_c, fnD_u, gcFn_u, sSetIx_u, dAdd_i, dAdd_s, dAdd_t, dAdd_l, dSub_i, dCmp_i, dEq_s, dEq_i, dEq_b, dNe_s, dNe_i, dNe_b, dIx_t, dIx_l, dIx_c, dSlice_t, dSlice_l, dSlice_c, dSlice_s, bLen_t, bLen_l, bLen_s, bTup_t, bTup_l, blList_t, blList_l, bInt_i, bInt_t, bInt_f, bMin_i, dIsN_1, dIsN_2, seqL_l, seqL_c, dMod_i, dDiv_i, dMul_r, dMul_l, bLen_c, gc_same, pow12, dicS_d, dicO_1, keyO_s, keyO_i, dgK_1, dgK2_1, diK_1, diK2_f, diK2_t, valD_n, mergeD_n, mergeD_c, putD_n, ienK_1, ppNil_u, ppK_1, ppK2_1, ppK3_1, keysD_n, kdK_1, kdK2_1, ddK_1, ddK2_1, g2K_1, g2K1_1, g2K2_1, g2K3_1, g2K4_1, isDic_d, dpK_1, dpK1_1, dpK2_1, dpK3_1, dbK_1, dbK2_1, bdCopy_1, ddNew_u, dicS_r, dGet_u, dInK_u, valD_c, putD_c, iEnumD_u, ppCons_u, keysD_c, ddDisp_u, eGet2_u, sDput_u, ddCopy_u, List.map_cons, List.map_nil, List.length_cons, List.length_nil, List.cons_append, List.nil_append, List.append_nil, List.getElem?_cons_zero, List.getElem?_cons_succ, List.set_cons_zero, List.set_cons_succ, ofString_inj, ofString_beq, en, he, h11, Pc.d, h3]
        · show _ < _ ∧ _ < _
          omega
  obtain ⟨p, ⟨h1, h2⟩ | ⟨he, h3⟩⟩ := num2
  · refine ⟨p, ?_, h2⟩
    simp only [bodies, gcFn_u, fnD_u, List.map_cons, List.map_nil, List.length_cons, List.length_nil, List.cons_append, List.nil_append]
    rw [show List.replicate (2 - (0 + 1 + 1)) none = ([] : Sl) from rfl, h1]
    simp [fnK, gcK, gcF]
  · have hl : 0 < sc.length := by cases sc with | nil => cases he | cons _ _ => simp
    obtain ⟨x, hx, ix⟩ := sD_ix (sc := sc) (i := n / 3 % (sc.length : Int)) (Int.emod_nonneg _ (by omega)) (Int.emod_lt_of_pos _ (by omega))
    refine ⟨.name x, ?_, ⟨hx, hs x hx⟩, rfl, rfl⟩
    simp [bodies, varK_1, eVar_u, eC_u, aNil_u, acK1_1, acK2_1, aCons_u, tupK_1, eTup_u, ldK_1, lDisp_u, eLK_1, eLMK_1, eL_u, eLM_u, eDiK_1, eDMK_1, eDi_u, eDM_u, opK1_1, opK2_1, opK3_1, eOp_u, negK_1, eNeg_u, slK1_1, slK2_1, slK3_1, slK4_1, ptSK_1, ptN_u, ptS_u, eSlice_u, callK_1, eCall_u, biK_1, blK_1, blK2_1, eBi_u, lBi_u, isiK_1, isiK2_1, eIsi_u, revK_1, revK2_1, lRev_u, andEK_1, andEK_2, orEK_1, orEK_2, notEK_1, orSK_1, ifEK_1, ifEK_2, tofK_1, eAnd_u, eOr_u, eNot_u, eOrS_u, eIf_u, tOf_u, chK1_1, chK2_1, chK3_1, chK3_2, eChain_u, tandK_1, tandK_2, torK_1, torK_2, tnotK_1, tTrue_u, tfAnd_u, tfOr_u, tfNot_u, lcK1_1, lcK2_1, lcK3_1, lcK3_2, lcK4_1, lcK5_1, lcD_n, lcD_c, aLc_u, wipeD_n, wipeD_c, gdName_u, gsK_1, gsNil_u, gdTup_u, gsCons_u, iseqK_1, iseqK2_1, itupK_1, istrK_1, irng1K_1, irng2K_1, seqP_1, seqP_2, iSeq_u, iTupD_u, iStrD_u, iRange1_u, iRange2_u, m1K_1, m1K2_1, m0K_1, s1K_1, eMeth1_u, eMeth0_u, eS1_u, setK_1, asgK_1, asgK2_1, retK_1, expK_1, seqK_1, seqK_2, seqK_3, ifK_1, ifK_2, forK_1, forD_n, forK2_1, forK3_1, forK3_2, forK3_3, fnK_1, fnK_2, gcK_1, sNext_u, sBrk_u, stK_1, stK0_1, stK1_1, stK2_1, sSet_u, sAsg_u, sRet_u, sExp_u, sSeq_u, sIf_u, sFor_u, forD_c, fnD_u, gcFn_u, sSetIx_u, dAdd_i, dAdd_s, dAdd_t, dAdd_l, dSub_i, dCmp_i, dEq_s, dEq_i, dEq_b, dNe_s, dNe_i, dNe_b, dIx_t, dIx_l, dIx_c, dSlice_t, dSlice_l, dSlice_c, dSlice_s, bLen_t, bLen_l, bLen_s, bTup_t, bTup_l, blList_t, blList_l, bInt_i, bInt_t, bInt_f, bMin_i, dIsN_1, dIsN_2, seqL_l, seqL_c, dMod_i, dDiv_i, dMul_r, dMul_l, bLen_c, gc_same, pow12, dicS_d, dicO_1, keyO_s, keyO_i, dgK_1, dgK2_1, diK_1, diK2_f, diK2_t, valD_n, mergeD_n, mergeD_c, putD_n, ienK_1, ppNil_u, ppK_1, ppK2_1, ppK3_1, keysD_n, kdK_1, kdK2_1, ddK_1, ddK2_1, g2K_1, g2K1_1, g2K2_1, g2K3_1, g2K4_1, isDic_d, dpK_1, dpK1_1, dpK2_1, dpK3_1, dbK_1, dbK2_1, bdCopy_1, ddNew_u, dicS_r, dGet_u, dInK_u, valD_c, putD_c, iEnumD_u, ppCons_u, keysD_c, ddDisp_u, eGet2_u, sDput_u, ddCopy_u, List.map_cons, List.map_nil, List.length_cons, List.length_nil, List.cons_append, List.nil_append, List.append_nil, List.getElem?_cons_zero, List.getElem?_cons_succ, List.set_cons_zero, List.set_cons_succ, ofString_inj, ofString_beq, en, he, h3, Pc.d, sD_len, ix, hl]
def MadeOk (k : Nat) : Prop := ∀ (ns : List Int) (S : List O) (j : Nat) (deep s : Int) (sc : List Str), j < S.length → okS S → 0 ≤ s → 0 ≤ deep → (∀ x ∈ sc, nmOk x) → sc.length + 2 * deep.toNat ≤ 500 → 2 * deep.toNat + 3 ≤ k →
  ∃ p s', Fk k ._law_made [.scr ns, .ref j, .int deep, sD sc] (StS S j s) = some (p.d, StS S j s') ∧ s < s' ∧ wf p sc ∧ (cd p ≤ deep.toNat + 2 ∧ (deep = 0 → cd p ≤ 1)) ∧ kn p + 7 * (22 - s').toNat ≤ 1 + 7 * (22 - s).toNat
def GoneOk (k : Nat) : Prop := ∀ (ns : List Int) (S : List O) (j : Nat) (deep s : Int) (sc : List Str), j < S.length → okS S → 0 ≤ s → 0 ≤ deep → (∀ x ∈ sc, nmOk x) → sc ≠ [] → sc.length + 2 * deep.toNat ≤ 500 → 2 * deep.toNat + 4 ≤ k →
  ∃ p s', Fk k ._law_gone_on [.scr ns, .ref j, .int deep, sD sc] (StS S j s) = some (p.d, StS S j s') ∧ s < s' ∧ wf p sc ∧ (cd p ≤ deep.toNat + 2 ∧ (deep = 0 → cd p ≤ 1)) ∧ kn p + 7 * (22 - s').toNat ≤ 7 + 7 * (22 - s).toNat
theorem pcall (a : Int) (f g : Pc) : D.tup [.str "call", .int a, f.d, g.d] = (Pc.call a f g).d := by simp [Pc.d]
theorem pname (x : Str) : D.tup [.str "name", .str x] = (Pc.name x).d := by simp [Pc.d]
theorem pnum (n : Int) : D.tup [.str "num", .int n] = (Pc.num n).d := by simp [Pc.d]
theorem pplus (a : Int) (f g : Pc) : D.tup [.str "plus", .int a, f.d, g.d] = (Pc.plus a f g).d := by simp [Pc.d]
theorem pfn (a : Int) (x : Str) (g : Pc) : D.tup [.str "fun", .int a, .str x, g.d] = (Pc.fn a x g).d := by simp [Pc.d]
theorem ptake (a : Int) (x : Str) (g : Pc) : D.tup [.str "take", .int a, .str x, g.d] = (Pc.take a x g).d := by simp [Pc.d]
theorem prnd (g : Pc) : D.tup [.str "round", g.d] = (Pc.rnd g).d := by simp [Pc.d]
theorem ppick (a : Int) (c f g : Pc) : D.tup [.str "pick", .int a, c.d, f.d, g.d] = (Pc.pick a c f g).d := by simp [Pc.d]
theorem gone_D {k : Nat} (hm : MadeOk k) : GoneOk (k + 1) := by
  intro ns S j deep s sc hj ok hs hd hsc hne hl hk
  have ei := StS_ix hj s
  have ec := cell_D (k := k) (by omega) ns (s % 60) (Int.emod_nonneg _ (by decide)) (StS S j s)
  have em := mixed_D (k := k) (by omega) (cell ns (s % 60) + 104729) (StS S j s)
  obtain ⟨m0, m1⟩ := mixed_b (cell ns (s % 60) + 104729)
  generalize mixed (cell ns (s % 60) + 104729) = M at em m0 m1
  have hl0 : 0 < sc.length := by cases sc with | nil => exact absurd rfl hne | cons _ _ => simp
  obtain ⟨x0, hx0, ix0⟩ := sD_ix (sc := sc) (i := 0) (by decide) (by omega)
  rw [Fk_s]
  by_cases hc : 0 < M % 4 ∧ 2 < deep
  · obtain ⟨h4, h2⟩ := hc
    obtain ⟨p, s', eq, h1, hw, hcd, hkn⟩ := hm ns S j (deep - 2) s sc hj ok hs (by omega) hsc (by omega) (by omega)
    have n0 : ¬ M % 4 = 0 := by omega
    have d3 : ¬ deep < 3 := by omega
    by_cases c1 : M % 4 = 1
    · refine ⟨.call (M / 8 % 10000) (.name x0) (.call (M / 4 % 10000) (.name x0) p), s', ?_, h1, ?_, ?_, ?_⟩
      · simp [bodies, b__law_gone_on, b__law_gone_on_t1, b__law_gone_on_t2, b__law_gone_on_t3, b__law_gone_on_t4, varK_1, eVar_u, eC_u, aNil_u, acK1_1, acK2_1, aCons_u, tupK_1, eTup_u, ldK_1, lDisp_u, eLK_1, eLMK_1, eL_u, eLM_u, eDiK_1, eDMK_1, eDi_u, eDM_u, opK1_1, opK2_1, opK3_1, eOp_u, negK_1, eNeg_u, slK1_1, slK2_1, slK3_1, slK4_1, ptSK_1, ptN_u, ptS_u, eSlice_u, callK_1, eCall_u, biK_1, blK_1, blK2_1, eBi_u, lBi_u, isiK_1, isiK2_1, eIsi_u, revK_1, revK2_1, lRev_u, andEK_1, andEK_2, orEK_1, orEK_2, notEK_1, orSK_1, ifEK_1, ifEK_2, tofK_1, eAnd_u, eOr_u, eNot_u, eOrS_u, eIf_u, tOf_u, chK1_1, chK2_1, chK3_1, chK3_2, eChain_u, tandK_1, tandK_2, torK_1, torK_2, tnotK_1, tTrue_u, tfAnd_u, tfOr_u, tfNot_u, lcK1_1, lcK2_1, lcK3_1, lcK3_2, lcK4_1, lcK5_1, lcD_n, lcD_c, aLc_u, wipeD_n, wipeD_c, gdName_u, gsK_1, gsNil_u, gdTup_u, gsCons_u, iseqK_1, iseqK2_1, itupK_1, istrK_1, irng1K_1, irng2K_1, seqP_1, seqP_2, iSeq_u, iTupD_u, iStrD_u, iRange1_u, iRange2_u, m1K_1, m1K2_1, m0K_1, s1K_1, eMeth1_u, eMeth0_u, eS1_u, setK_1, asgK_1, asgK2_1, retK_1, expK_1, seqK_1, seqK_2, seqK_3, ifK_1, ifK_2, forK_1, forD_n, forK2_1, forK3_1, forK3_2, forK3_3, fnK_1, fnK_2, gcK_1, sNext_u, sBrk_u, stK_1, stK0_1, stK1_1, stK2_1, sSet_u, sAsg_u, sRet_u, sExp_u, sSeq_u, sIf_u, sFor_u, forD_c, fnD_u, gcFn_u, sSetIx_u, dAdd_i, dAdd_s, dAdd_t, dAdd_l, dSub_i, dCmp_i, dEq_s, dEq_i, dEq_b, dNe_s, dNe_i, dNe_b, dIx_t, dIx_l, dIx_c, dSlice_t, dSlice_l, dSlice_c, dSlice_s, bLen_t, bLen_l, bLen_s, bTup_t, bTup_l, blList_t, blList_l, bInt_i, bInt_t, bInt_f, bMin_i, dIsN_1, dIsN_2, seqL_l, seqL_c, dMod_i, dDiv_i, dMul_r, dMul_l, bLen_c, gc_same, pow12, dicS_d, dicO_1, keyO_s, keyO_i, dgK_1, dgK2_1, diK_1, diK2_f, diK2_t, valD_n, mergeD_n, mergeD_c, putD_n, ienK_1, ppNil_u, ppK_1, ppK2_1, ppK3_1, keysD_n, kdK_1, kdK2_1, ddK_1, ddK2_1, g2K_1, g2K1_1, g2K2_1, g2K3_1, g2K4_1, isDic_d, dpK_1, dpK1_1, dpK2_1, dpK3_1, dbK_1, dbK2_1, bdCopy_1, ddNew_u, dicS_r, dGet_u, dInK_u, valD_c, putD_c, iEnumD_u, ppCons_u, keysD_c, ddDisp_u, eGet2_u, sDput_u, ddCopy_u, List.map_cons, List.map_nil, List.length_cons, List.length_nil, List.cons_append, List.nil_append, List.append_nil, List.getElem?_cons_zero, List.getElem?_cons_succ, List.set_cons_zero, List.set_cons_succ, ofString_inj, ofString_beq, ei, ec, em, h4, h2, eq, n0, d3, c1, ix0, StS_len, gc_same, pcall, pname]
      · simp only [wf, markOk]
        exact ⟨by omega, ⟨hx0, hsc _ hx0⟩, by omega, ⟨hx0, hsc _ hx0⟩, hw⟩
      · simp only [cd]; omega
      · simp only [kn]; omega
    · by_cases c2 : M % 4 = 2
      · by_cases c3 : M / 4 % 2 = 0
        · refine ⟨.plus (M / 7 % 10000) (.call (M / 4 % 10000) (.name x0) p) (.call (M / 9 % 10000) (.name x0) (.num (M / 5 % 7))), s', ?_, h1, ?_, ?_, ?_⟩
          · simp [bodies, b__law_gone_on, b__law_gone_on_t1, b__law_gone_on_t2, b__law_gone_on_t3, b__law_gone_on_t4, b__law_gone_on_t5, varK_1, eVar_u, eC_u, aNil_u, acK1_1, acK2_1, aCons_u, tupK_1, eTup_u, ldK_1, lDisp_u, eLK_1, eLMK_1, eL_u, eLM_u, eDiK_1, eDMK_1, eDi_u, eDM_u, opK1_1, opK2_1, opK3_1, eOp_u, negK_1, eNeg_u, slK1_1, slK2_1, slK3_1, slK4_1, ptSK_1, ptN_u, ptS_u, eSlice_u, callK_1, eCall_u, biK_1, blK_1, blK2_1, eBi_u, lBi_u, isiK_1, isiK2_1, eIsi_u, revK_1, revK2_1, lRev_u, andEK_1, andEK_2, orEK_1, orEK_2, notEK_1, orSK_1, ifEK_1, ifEK_2, tofK_1, eAnd_u, eOr_u, eNot_u, eOrS_u, eIf_u, tOf_u, chK1_1, chK2_1, chK3_1, chK3_2, eChain_u, tandK_1, tandK_2, torK_1, torK_2, tnotK_1, tTrue_u, tfAnd_u, tfOr_u, tfNot_u, lcK1_1, lcK2_1, lcK3_1, lcK3_2, lcK4_1, lcK5_1, lcD_n, lcD_c, aLc_u, wipeD_n, wipeD_c, gdName_u, gsK_1, gsNil_u, gdTup_u, gsCons_u, iseqK_1, iseqK2_1, itupK_1, istrK_1, irng1K_1, irng2K_1, seqP_1, seqP_2, iSeq_u, iTupD_u, iStrD_u, iRange1_u, iRange2_u, m1K_1, m1K2_1, m0K_1, s1K_1, eMeth1_u, eMeth0_u, eS1_u, setK_1, asgK_1, asgK2_1, retK_1, expK_1, seqK_1, seqK_2, seqK_3, ifK_1, ifK_2, forK_1, forD_n, forK2_1, forK3_1, forK3_2, forK3_3, fnK_1, fnK_2, gcK_1, sNext_u, sBrk_u, stK_1, stK0_1, stK1_1, stK2_1, sSet_u, sAsg_u, sRet_u, sExp_u, sSeq_u, sIf_u, sFor_u, forD_c, fnD_u, gcFn_u, sSetIx_u, dAdd_i, dAdd_s, dAdd_t, dAdd_l, dSub_i, dCmp_i, dEq_s, dEq_i, dEq_b, dNe_s, dNe_i, dNe_b, dIx_t, dIx_l, dIx_c, dSlice_t, dSlice_l, dSlice_c, dSlice_s, bLen_t, bLen_l, bLen_s, bTup_t, bTup_l, blList_t, blList_l, bInt_i, bInt_t, bInt_f, bMin_i, dIsN_1, dIsN_2, seqL_l, seqL_c, dMod_i, dDiv_i, dMul_r, dMul_l, bLen_c, gc_same, pow12, dicS_d, dicO_1, keyO_s, keyO_i, dgK_1, dgK2_1, diK_1, diK2_f, diK2_t, valD_n, mergeD_n, mergeD_c, putD_n, ienK_1, ppNil_u, ppK_1, ppK2_1, ppK3_1, keysD_n, kdK_1, kdK2_1, ddK_1, ddK2_1, g2K_1, g2K1_1, g2K2_1, g2K3_1, g2K4_1, isDic_d, dpK_1, dpK1_1, dpK2_1, dpK3_1, dbK_1, dbK2_1, bdCopy_1, ddNew_u, dicS_r, dGet_u, dInK_u, valD_c, putD_c, iEnumD_u, ppCons_u, keysD_c, ddDisp_u, eGet2_u, sDput_u, ddCopy_u, List.map_cons, List.map_nil, List.length_cons, List.length_nil, List.cons_append, List.nil_append, List.append_nil, List.getElem?_cons_zero, List.getElem?_cons_succ, List.set_cons_zero, List.set_cons_succ, ofString_inj, ofString_beq, ei, ec, em, h4, h2, eq, n0, d3, c1, c2, c3, ix0, StS_len, gc_same, pcall, pname, pnum, pplus, atI, ixN]
          · simp only [wf, markOk]
            exact ⟨by omega, ⟨by omega, ⟨hx0, hsc _ hx0⟩, hw⟩, by omega, ⟨hx0, hsc _ hx0⟩, by omega⟩
          · simp only [cd]; omega
          · simp only [kn]; omega
        · have c3' : M / 4 % 2 = 1 := by omega
          refine ⟨.plus (M / 7 % 10000) (.call (M / 9 % 10000) (.name x0) (.num (M / 5 % 7))) (.call (M / 4 % 10000) (.name x0) p), s', ?_, h1, ?_, ?_, ?_⟩
          · simp [bodies, b__law_gone_on, b__law_gone_on_t1, b__law_gone_on_t2, b__law_gone_on_t3, b__law_gone_on_t4, b__law_gone_on_t5, varK_1, eVar_u, eC_u, aNil_u, acK1_1, acK2_1, aCons_u, tupK_1, eTup_u, ldK_1, lDisp_u, eLK_1, eLMK_1, eL_u, eLM_u, eDiK_1, eDMK_1, eDi_u, eDM_u, opK1_1, opK2_1, opK3_1, eOp_u, negK_1, eNeg_u, slK1_1, slK2_1, slK3_1, slK4_1, ptSK_1, ptN_u, ptS_u, eSlice_u, callK_1, eCall_u, biK_1, blK_1, blK2_1, eBi_u, lBi_u, isiK_1, isiK2_1, eIsi_u, revK_1, revK2_1, lRev_u, andEK_1, andEK_2, orEK_1, orEK_2, notEK_1, orSK_1, ifEK_1, ifEK_2, tofK_1, eAnd_u, eOr_u, eNot_u, eOrS_u, eIf_u, tOf_u, chK1_1, chK2_1, chK3_1, chK3_2, eChain_u, tandK_1, tandK_2, torK_1, torK_2, tnotK_1, tTrue_u, tfAnd_u, tfOr_u, tfNot_u, lcK1_1, lcK2_1, lcK3_1, lcK3_2, lcK4_1, lcK5_1, lcD_n, lcD_c, aLc_u, wipeD_n, wipeD_c, gdName_u, gsK_1, gsNil_u, gdTup_u, gsCons_u, iseqK_1, iseqK2_1, itupK_1, istrK_1, irng1K_1, irng2K_1, seqP_1, seqP_2, iSeq_u, iTupD_u, iStrD_u, iRange1_u, iRange2_u, m1K_1, m1K2_1, m0K_1, s1K_1, eMeth1_u, eMeth0_u, eS1_u, setK_1, asgK_1, asgK2_1, retK_1, expK_1, seqK_1, seqK_2, seqK_3, ifK_1, ifK_2, forK_1, forD_n, forK2_1, forK3_1, forK3_2, forK3_3, fnK_1, fnK_2, gcK_1, sNext_u, sBrk_u, stK_1, stK0_1, stK1_1, stK2_1, sSet_u, sAsg_u, sRet_u, sExp_u, sSeq_u, sIf_u, sFor_u, forD_c, fnD_u, gcFn_u, sSetIx_u, dAdd_i, dAdd_s, dAdd_t, dAdd_l, dSub_i, dCmp_i, dEq_s, dEq_i, dEq_b, dNe_s, dNe_i, dNe_b, dIx_t, dIx_l, dIx_c, dSlice_t, dSlice_l, dSlice_c, dSlice_s, bLen_t, bLen_l, bLen_s, bTup_t, bTup_l, blList_t, blList_l, bInt_i, bInt_t, bInt_f, bMin_i, dIsN_1, dIsN_2, seqL_l, seqL_c, dMod_i, dDiv_i, dMul_r, dMul_l, bLen_c, gc_same, pow12, dicS_d, dicO_1, keyO_s, keyO_i, dgK_1, dgK2_1, diK_1, diK2_f, diK2_t, valD_n, mergeD_n, mergeD_c, putD_n, ienK_1, ppNil_u, ppK_1, ppK2_1, ppK3_1, keysD_n, kdK_1, kdK2_1, ddK_1, ddK2_1, g2K_1, g2K1_1, g2K2_1, g2K3_1, g2K4_1, isDic_d, dpK_1, dpK1_1, dpK2_1, dpK3_1, dbK_1, dbK2_1, bdCopy_1, ddNew_u, dicS_r, dGet_u, dInK_u, valD_c, putD_c, iEnumD_u, ppCons_u, keysD_c, ddDisp_u, eGet2_u, sDput_u, ddCopy_u, List.map_cons, List.map_nil, List.length_cons, List.length_nil, List.cons_append, List.nil_append, List.append_nil, List.getElem?_cons_zero, List.getElem?_cons_succ, List.set_cons_zero, List.set_cons_succ, ofString_inj, ofString_beq, ei, ec, em, h4, h2, eq, n0, d3, c1, c2, c3', ix0, StS_len, gc_same, pcall, pname, pnum, pplus, atI, ixN]
          · simp only [wf, markOk]
            exact ⟨by omega, ⟨by omega, ⟨hx0, hsc _ hx0⟩, by omega⟩, by omega, ⟨hx0, hsc _ hx0⟩, hw⟩
          · simp only [cd]; omega
          · simp only [kn]; omega
      · refine ⟨.call (M / 4 % 10000) (.name x0) p, s', ?_, h1, ?_, ?_, ?_⟩
        · simp [bodies, b__law_gone_on, b__law_gone_on_t1, b__law_gone_on_t2, b__law_gone_on_t3, b__law_gone_on_t4, b__law_gone_on_t5, b__law_gone_on_t6, varK_1, eVar_u, eC_u, aNil_u, acK1_1, acK2_1, aCons_u, tupK_1, eTup_u, ldK_1, lDisp_u, eLK_1, eLMK_1, eL_u, eLM_u, eDiK_1, eDMK_1, eDi_u, eDM_u, opK1_1, opK2_1, opK3_1, eOp_u, negK_1, eNeg_u, slK1_1, slK2_1, slK3_1, slK4_1, ptSK_1, ptN_u, ptS_u, eSlice_u, callK_1, eCall_u, biK_1, blK_1, blK2_1, eBi_u, lBi_u, isiK_1, isiK2_1, eIsi_u, revK_1, revK2_1, lRev_u, andEK_1, andEK_2, orEK_1, orEK_2, notEK_1, orSK_1, ifEK_1, ifEK_2, tofK_1, eAnd_u, eOr_u, eNot_u, eOrS_u, eIf_u, tOf_u, chK1_1, chK2_1, chK3_1, chK3_2, eChain_u, tandK_1, tandK_2, torK_1, torK_2, tnotK_1, tTrue_u, tfAnd_u, tfOr_u, tfNot_u, lcK1_1, lcK2_1, lcK3_1, lcK3_2, lcK4_1, lcK5_1, lcD_n, lcD_c, aLc_u, wipeD_n, wipeD_c, gdName_u, gsK_1, gsNil_u, gdTup_u, gsCons_u, iseqK_1, iseqK2_1, itupK_1, istrK_1, irng1K_1, irng2K_1, seqP_1, seqP_2, iSeq_u, iTupD_u, iStrD_u, iRange1_u, iRange2_u, m1K_1, m1K2_1, m0K_1, s1K_1, eMeth1_u, eMeth0_u, eS1_u, setK_1, asgK_1, asgK2_1, retK_1, expK_1, seqK_1, seqK_2, seqK_3, ifK_1, ifK_2, forK_1, forD_n, forK2_1, forK3_1, forK3_2, forK3_3, fnK_1, fnK_2, gcK_1, sNext_u, sBrk_u, stK_1, stK0_1, stK1_1, stK2_1, sSet_u, sAsg_u, sRet_u, sExp_u, sSeq_u, sIf_u, sFor_u, forD_c, fnD_u, gcFn_u, sSetIx_u, dAdd_i, dAdd_s, dAdd_t, dAdd_l, dSub_i, dCmp_i, dEq_s, dEq_i, dEq_b, dNe_s, dNe_i, dNe_b, dIx_t, dIx_l, dIx_c, dSlice_t, dSlice_l, dSlice_c, dSlice_s, bLen_t, bLen_l, bLen_s, bTup_t, bTup_l, blList_t, blList_l, bInt_i, bInt_t, bInt_f, bMin_i, dIsN_1, dIsN_2, seqL_l, seqL_c, dMod_i, dDiv_i, dMul_r, dMul_l, bLen_c, gc_same, pow12, dicS_d, dicO_1, keyO_s, keyO_i, dgK_1, dgK2_1, diK_1, diK2_f, diK2_t, valD_n, mergeD_n, mergeD_c, putD_n, ienK_1, ppNil_u, ppK_1, ppK2_1, ppK3_1, keysD_n, kdK_1, kdK2_1, ddK_1, ddK2_1, g2K_1, g2K1_1, g2K2_1, g2K3_1, g2K4_1, isDic_d, dpK_1, dpK1_1, dpK2_1, dpK3_1, dbK_1, dbK2_1, bdCopy_1, ddNew_u, dicS_r, dGet_u, dInK_u, valD_c, putD_c, iEnumD_u, ppCons_u, keysD_c, ddDisp_u, eGet2_u, sDput_u, ddCopy_u, List.map_cons, List.map_nil, List.length_cons, List.length_nil, List.cons_append, List.nil_append, List.append_nil, List.getElem?_cons_zero, List.getElem?_cons_succ, List.set_cons_zero, List.set_cons_succ, ofString_inj, ofString_beq, ei, ec, em, h4, h2, eq, n0, d3, c1, c2, ix0, StS_len, gc_same, pcall, pname]
        · simp only [wf, markOk]
          exact ⟨by omega, ⟨hx0, hsc _ hx0⟩, hw⟩
        · simp only [cd]; omega
        · simp only [kn]; omega
  · obtain ⟨p, s', eq, h1, hw, hcd, hkn⟩ := hm ns S j deep s sc hj ok hs hd hsc (by omega) (by omega)
    refine ⟨p, s', ?_, h1, hw, hcd, by omega⟩
    by_cases h4 : M % 4 = 0
    · simp [bodies, b__law_gone_on, b__law_gone_on_t1, b__law_gone_on_t2, varK_1, eVar_u, eC_u, aNil_u, acK1_1, acK2_1, aCons_u, tupK_1, eTup_u, ldK_1, lDisp_u, eLK_1, eLMK_1, eL_u, eLM_u, eDiK_1, eDMK_1, eDi_u, eDM_u, opK1_1, opK2_1, opK3_1, eOp_u, negK_1, eNeg_u, slK1_1, slK2_1, slK3_1, slK4_1, ptSK_1, ptN_u, ptS_u, eSlice_u, callK_1, eCall_u, biK_1, blK_1, blK2_1, eBi_u, lBi_u, isiK_1, isiK2_1, eIsi_u, revK_1, revK2_1, lRev_u, andEK_1, andEK_2, orEK_1, orEK_2, notEK_1, orSK_1, ifEK_1, ifEK_2, tofK_1, eAnd_u, eOr_u, eNot_u, eOrS_u, eIf_u, tOf_u, chK1_1, chK2_1, chK3_1, chK3_2, eChain_u, tandK_1, tandK_2, torK_1, torK_2, tnotK_1, tTrue_u, tfAnd_u, tfOr_u, tfNot_u, lcK1_1, lcK2_1, lcK3_1, lcK3_2, lcK4_1, lcK5_1, lcD_n, lcD_c, aLc_u, wipeD_n, wipeD_c, gdName_u, gsK_1, gsNil_u, gdTup_u, gsCons_u, iseqK_1, iseqK2_1, itupK_1, istrK_1, irng1K_1, irng2K_1, seqP_1, seqP_2, iSeq_u, iTupD_u, iStrD_u, iRange1_u, iRange2_u, m1K_1, m1K2_1, m0K_1, s1K_1, eMeth1_u, eMeth0_u, eS1_u, setK_1, asgK_1, asgK2_1, retK_1, expK_1, seqK_1, seqK_2, seqK_3, ifK_1, ifK_2, forK_1, forD_n, forK2_1, forK3_1, forK3_2, forK3_3, fnK_1, fnK_2, gcK_1, sNext_u, sBrk_u, stK_1, stK0_1, stK1_1, stK2_1, sSet_u, sAsg_u, sRet_u, sExp_u, sSeq_u, sIf_u, sFor_u, forD_c, fnD_u, gcFn_u, sSetIx_u, dAdd_i, dAdd_s, dAdd_t, dAdd_l, dSub_i, dCmp_i, dEq_s, dEq_i, dEq_b, dNe_s, dNe_i, dNe_b, dIx_t, dIx_l, dIx_c, dSlice_t, dSlice_l, dSlice_c, dSlice_s, bLen_t, bLen_l, bLen_s, bTup_t, bTup_l, blList_t, blList_l, bInt_i, bInt_t, bInt_f, bMin_i, dIsN_1, dIsN_2, seqL_l, seqL_c, dMod_i, dDiv_i, dMul_r, dMul_l, bLen_c, gc_same, pow12, dicS_d, dicO_1, keyO_s, keyO_i, dgK_1, dgK2_1, diK_1, diK2_f, diK2_t, valD_n, mergeD_n, mergeD_c, putD_n, ienK_1, ppNil_u, ppK_1, ppK2_1, ppK3_1, keysD_n, kdK_1, kdK2_1, ddK_1, ddK2_1, g2K_1, g2K1_1, g2K2_1, g2K3_1, g2K4_1, isDic_d, dpK_1, dpK1_1, dpK2_1, dpK3_1, dbK_1, dbK2_1, bdCopy_1, ddNew_u, dicS_r, dGet_u, dInK_u, valD_c, putD_c, iEnumD_u, ppCons_u, keysD_c, ddDisp_u, eGet2_u, sDput_u, ddCopy_u, List.map_cons, List.map_nil, List.length_cons, List.length_nil, List.cons_append, List.nil_append, List.append_nil, List.getElem?_cons_zero, List.getElem?_cons_succ, List.set_cons_zero, List.set_cons_succ, ofString_inj, ofString_beq, ei, ec, em, h4, eq, StS_len, gc_same]
    · have h4' : 0 < M % 4 := by omega
      have h2 : ¬ 2 < deep := by omega
      have d3 : deep < 3 := by omega
      simp [bodies, b__law_gone_on, b__law_gone_on_t1, b__law_gone_on_t2, varK_1, eVar_u, eC_u, aNil_u, acK1_1, acK2_1, aCons_u, tupK_1, eTup_u, ldK_1, lDisp_u, eLK_1, eLMK_1, eL_u, eLM_u, eDiK_1, eDMK_1, eDi_u, eDM_u, opK1_1, opK2_1, opK3_1, eOp_u, negK_1, eNeg_u, slK1_1, slK2_1, slK3_1, slK4_1, ptSK_1, ptN_u, ptS_u, eSlice_u, callK_1, eCall_u, biK_1, blK_1, blK2_1, eBi_u, lBi_u, isiK_1, isiK2_1, eIsi_u, revK_1, revK2_1, lRev_u, andEK_1, andEK_2, orEK_1, orEK_2, notEK_1, orSK_1, ifEK_1, ifEK_2, tofK_1, eAnd_u, eOr_u, eNot_u, eOrS_u, eIf_u, tOf_u, chK1_1, chK2_1, chK3_1, chK3_2, eChain_u, tandK_1, tandK_2, torK_1, torK_2, tnotK_1, tTrue_u, tfAnd_u, tfOr_u, tfNot_u, lcK1_1, lcK2_1, lcK3_1, lcK3_2, lcK4_1, lcK5_1, lcD_n, lcD_c, aLc_u, wipeD_n, wipeD_c, gdName_u, gsK_1, gsNil_u, gdTup_u, gsCons_u, iseqK_1, iseqK2_1, itupK_1, istrK_1, irng1K_1, irng2K_1, seqP_1, seqP_2, iSeq_u, iTupD_u, iStrD_u, iRange1_u, iRange2_u, m1K_1, m1K2_1, m0K_1, s1K_1, eMeth1_u, eMeth0_u, eS1_u, setK_1, asgK_1, asgK2_1, retK_1, expK_1, seqK_1, seqK_2, seqK_3, ifK_1, ifK_2, forK_1, forD_n, forK2_1, forK3_1, forK3_2, forK3_3, fnK_1, fnK_2, gcK_1, sNext_u, sBrk_u, stK_1, stK0_1, stK1_1, stK2_1, sSet_u, sAsg_u, sRet_u, sExp_u, sSeq_u, sIf_u, sFor_u, forD_c, fnD_u, gcFn_u, sSetIx_u, dAdd_i, dAdd_s, dAdd_t, dAdd_l, dSub_i, dCmp_i, dEq_s, dEq_i, dEq_b, dNe_s, dNe_i, dNe_b, dIx_t, dIx_l, dIx_c, dSlice_t, dSlice_l, dSlice_c, dSlice_s, bLen_t, bLen_l, bLen_s, bTup_t, bTup_l, blList_t, blList_l, bInt_i, bInt_t, bInt_f, bMin_i, dIsN_1, dIsN_2, seqL_l, seqL_c, dMod_i, dDiv_i, dMul_r, dMul_l, bLen_c, gc_same, pow12, dicS_d, dicO_1, keyO_s, keyO_i, dgK_1, dgK2_1, diK_1, diK2_f, diK2_t, valD_n, mergeD_n, mergeD_c, putD_n, ienK_1, ppNil_u, ppK_1, ppK2_1, ppK3_1, keysD_n, kdK_1, kdK2_1, ddK_1, ddK2_1, g2K_1, g2K1_1, g2K2_1, g2K3_1, g2K4_1, isDic_d, dpK_1, dpK1_1, dpK2_1, dpK3_1, dbK_1, dbK2_1, bdCopy_1, ddNew_u, dicS_r, dGet_u, dInK_u, valD_c, putD_c, iEnumD_u, ppCons_u, keysD_c, ddDisp_u, eGet2_u, sDput_u, ddCopy_u, List.map_cons, List.map_nil, List.length_cons, List.length_nil, List.cons_append, List.nil_append, List.append_nil, List.getElem?_cons_zero, List.getElem?_cons_succ, List.set_cons_zero, List.set_cons_succ, ofString_inj, ofString_beq, ei, ec, em, h4, h4', h2, d3, eq, StS_len, gc_same]
theorem dIx_new (S : List O) (xs : List D) (i : Int) : dIx (.ref S.length) (.int i) (S ++ [.lst xs]) = atI xs i := by
  unfold dIx
  simp [seqL]
theorem dIx_newS (S : List O) (j : Nat) (s : Int) (xs : List D) (i : Int) : dIx (.ref S.length) (.int i) (StS S j s ++ [.lst xs]) = atI xs i := by
  have := dIx_new (StS S j s) xs i
  rw [StS_len] at this
  exact this
theorem setO_newS (S : List O) (j : Nat) (s : Int) (x : D) (xs : List D) (d : D) : setO (StS S j s ++ [.lst (x :: xs)]) (.ref S.length) (stF d 0) = some (StS S j s ++ [.lst (d :: xs)]) := by
  have e : S.length = (StS S j s).length := (StS_len S j s).symm
  unfold setO
  rw [e]
  simp [stF, ixN]
theorem gc_newS {S : List O} {d : D} {o : O} (h : okS S) (j : Nat) (s : Int) (hd : okD S.length d = true) (hr : ∀ j, d ≠ .ref j) : gcF S.length (d, StS S j s ++ [o]) = some (d, StS S j s) := by
  have := gc_new (S := StS S j s) (d := d) (o := o) (StS_ok h j s) (by rw [StS_len]; exact hd) hr
  rw [StS_len] at this
  exact this
theorem pc_noref (p : Pc) : ∀ j, p.d ≠ .ref j := by intro j; cases p <;> simp [Pc.d]
theorem made_D {k : Nat} (hm : MadeOk k) (hg : GoneOk k) : MadeOk (k + 1) := by
  intro ns S j deep s sc hj ok hs hd hsc hl hk
  have ei := StS_ix hj
  have ec := cell_D (k := k) (by omega) ns (s % 60) (Int.emod_nonneg _ (by decide)) (StS S j s)
  have em := mixed_D (k := k) (by omega) (cell ns (s % 60) + 7919 * s) (StS S j s)
  obtain ⟨m0, m1⟩ := mixed_b (cell ns (s % 60) + 7919 * s)
  generalize mixed (cell ns (s % 60) + 7919 * s) = M at em m0 m1
  obtain ⟨a, ea, ha⟩ := mark_D (k := k) (by omega) (M / 14) (StS S j (s + 1))
  obtain ⟨x0, ex, hx0⟩ := name_D (k := k) (by omega) (M / 28) (StS S j (s + 1))
  have ep := fun v => StS_put hj s v
  have en := dNe_nil hsc
  have pre : ∃ x, nmOk x ∧ b__law_made (Fk k) [some (.scr ns), some (.ref j), some (.int deep), some (sD sc), none, none, none, none, none, none, none, none] (StS S j s) =
      b__law_made_t6 (Fk k) [some (.scr ns), some (.ref j), some (.int deep), some (sD sc), some (.int M), some (.int (M % 14)), some (.int a), some (.str x), none, none, none, none] (StS S j (s + 1)) := by
    by_cases hc : sc.isEmpty = false ∧ M / 14 % 4 = 1
    · obtain ⟨he, h1⟩ := hc
      have hl0 : 0 < sc.length := by cases sc with | nil => cases he | cons _ _ => simp
      obtain ⟨x, hx, ix⟩ := sD_ix (sc := sc) (i := M / 56 % (sc.length : Int)) (Int.emod_nonneg _ (by omega)) (Int.emod_lt_of_pos _ (by omega))
      refine ⟨x, hsc x hx, ?_⟩
      simp [b__law_made, b__law_made_t1, b__law_made_t2, b__law_made_t3, b__law_made_t4, b__law_made_t5, varK_1, eVar_u, eC_u, aNil_u, acK1_1, acK2_1, aCons_u, tupK_1, eTup_u, ldK_1, lDisp_u, eLK_1, eLMK_1, eL_u, eLM_u, eDiK_1, eDMK_1, eDi_u, eDM_u, opK1_1, opK2_1, opK3_1, eOp_u, negK_1, eNeg_u, slK1_1, slK2_1, slK3_1, slK4_1, ptSK_1, ptN_u, ptS_u, eSlice_u, callK_1, eCall_u, biK_1, blK_1, blK2_1, eBi_u, lBi_u, isiK_1, isiK2_1, eIsi_u, revK_1, revK2_1, lRev_u, andEK_1, andEK_2, orEK_1, orEK_2, notEK_1, orSK_1, ifEK_1, ifEK_2, tofK_1, eAnd_u, eOr_u, eNot_u, eOrS_u, eIf_u, tOf_u, chK1_1, chK2_1, chK3_1, chK3_2, eChain_u, tandK_1, tandK_2, torK_1, torK_2, tnotK_1, tTrue_u, tfAnd_u, tfOr_u, tfNot_u, lcK1_1, lcK2_1, lcK3_1, lcK3_2, lcK4_1, lcK5_1, lcD_n, lcD_c, aLc_u, wipeD_n, wipeD_c, gdName_u, gsK_1, gsNil_u, gdTup_u, gsCons_u, iseqK_1, iseqK2_1, itupK_1, istrK_1, irng1K_1, irng2K_1, seqP_1, seqP_2, iSeq_u, iTupD_u, iStrD_u, iRange1_u, iRange2_u, m1K_1, m1K2_1, m0K_1, s1K_1, eMeth1_u, eMeth0_u, eS1_u, setK_1, asgK_1, asgK2_1, retK_1, expK_1, seqK_1, seqK_2, seqK_3, ifK_1, ifK_2, forK_1, forD_n, forK2_1, forK3_1, forK3_2, forK3_3, fnK_1, fnK_2, gcK_1, sNext_u, sBrk_u, stK_1, stK0_1, stK1_1, stK2_1, sSet_u, sAsg_u, sRet_u, sExp_u, sSeq_u, sIf_u, sFor_u, forD_c, fnD_u, gcFn_u, sSetIx_u, dAdd_i, dAdd_s, dAdd_t, dAdd_l, dSub_i, dCmp_i, dEq_s, dEq_i, dEq_b, dNe_s, dNe_i, dNe_b, dIx_t, dIx_l, dIx_c, dSlice_t, dSlice_l, dSlice_c, dSlice_s, bLen_t, bLen_l, bLen_s, bTup_t, bTup_l, blList_t, blList_l, bInt_i, bInt_t, bInt_f, bMin_i, dIsN_1, dIsN_2, seqL_l, seqL_c, dMod_i, dDiv_i, dMul_r, dMul_l, bLen_c, gc_same, pow12, dicS_d, dicO_1, keyO_s, keyO_i, dgK_1, dgK2_1, diK_1, diK2_f, diK2_t, valD_n, mergeD_n, mergeD_c, putD_n, ienK_1, ppNil_u, ppK_1, ppK2_1, ppK3_1, keysD_n, kdK_1, kdK2_1, ddK_1, ddK2_1, g2K_1, g2K1_1, g2K2_1, g2K3_1, g2K4_1, isDic_d, dpK_1, dpK1_1, dpK2_1, dpK3_1, dbK_1, dbK2_1, bdCopy_1, ddNew_u, dicS_r, dGet_u, dInK_u, valD_c, putD_c, iEnumD_u, ppCons_u, keysD_c, ddDisp_u, eGet2_u, sDput_u, ddCopy_u, List.map_cons, List.map_nil, List.length_cons, List.length_nil, List.cons_append, List.nil_append, List.append_nil, List.getElem?_cons_zero, List.getElem?_cons_succ, List.set_cons_zero, List.set_cons_succ, ofString_inj, ofString_beq, ei, ec, em, ea, ex, ep, en, he, h1, ix, sD_len, hl0]
    · refine ⟨x0, hx0, ?_⟩
      cases he : sc.isEmpty with
      | true => simp [b__law_made, b__law_made_t1, b__law_made_t2, b__law_made_t3, b__law_made_t4, b__law_made_t5, varK_1, eVar_u, eC_u, aNil_u, acK1_1, acK2_1, aCons_u, tupK_1, eTup_u, ldK_1, lDisp_u, eLK_1, eLMK_1, eL_u, eLM_u, eDiK_1, eDMK_1, eDi_u, eDM_u, opK1_1, opK2_1, opK3_1, eOp_u, negK_1, eNeg_u, slK1_1, slK2_1, slK3_1, slK4_1, ptSK_1, ptN_u, ptS_u, eSlice_u, callK_1, eCall_u, biK_1, blK_1, blK2_1, eBi_u, lBi_u, isiK_1, isiK2_1, eIsi_u, revK_1, revK2_1, lRev_u, andEK_1, andEK_2, orEK_1, orEK_2, notEK_1, orSK_1, ifEK_1, ifEK_2, tofK_1, eAnd_u, eOr_u, eNot_u, eOrS_u, eIf_u, tOf_u, chK1_1, chK2_1, chK3_1, chK3_2, eChain_u, tandK_1, tandK_2, torK_1, torK_2, tnotK_1, tTrue_u, tfAnd_u, tfOr_u, tfNot_u, lcK1_1, lcK2_1, lcK3_1, lcK3_2, lcK4_1, lcK5_1, lcD_n, lcD_c, aLc_u, wipeD_n, wipeD_c, gdName_u, gsK_1, gsNil_u, gdTup_u, gsCons_u, iseqK_1, iseqK2_1, itupK_1, istrK_1, irng1K_1, irng2K_1, seqP_1, seqP_2, iSeq_u, iTupD_u, iStrD_u, iRange1_u, iRange2_u, m1K_1, m1K2_1, m0K_1, s1K_1, eMeth1_u, eMeth0_u, eS1_u, setK_1, asgK_1, asgK2_1, retK_1, expK_1, seqK_1, seqK_2, seqK_3, ifK_1, ifK_2, forK_1, forD_n, forK2_1, forK3_1, forK3_2, forK3_3, fnK_1, fnK_2, gcK_1, sNext_u, sBrk_u, stK_1, stK0_1, stK1_1, stK2_1, sSet_u, sAsg_u, sRet_u, sExp_u, sSeq_u, sIf_u, sFor_u, forD_c, fnD_u, gcFn_u, sSetIx_u, dAdd_i, dAdd_s, dAdd_t, dAdd_l, dSub_i, dCmp_i, dEq_s, dEq_i, dEq_b, dNe_s, dNe_i, dNe_b, dIx_t, dIx_l, dIx_c, dSlice_t, dSlice_l, dSlice_c, dSlice_s, bLen_t, bLen_l, bLen_s, bTup_t, bTup_l, blList_t, blList_l, bInt_i, bInt_t, bInt_f, bMin_i, dIsN_1, dIsN_2, seqL_l, seqL_c, dMod_i, dDiv_i, dMul_r, dMul_l, bLen_c, gc_same, pow12, dicS_d, dicO_1, keyO_s, keyO_i, dgK_1, dgK2_1, diK_1, diK2_f, diK2_t, valD_n, mergeD_n, mergeD_c, putD_n, ienK_1, ppNil_u, ppK_1, ppK2_1, ppK3_1, keysD_n, kdK_1, kdK2_1, ddK_1, ddK2_1, g2K_1, g2K1_1, g2K2_1, g2K3_1, g2K4_1, isDic_d, dpK_1, dpK1_1, dpK2_1, dpK3_1, dbK_1, dbK2_1, bdCopy_1, ddNew_u, dicS_r, dGet_u, dInK_u, valD_c, putD_c, iEnumD_u, ppCons_u, keysD_c, ddDisp_u, eGet2_u, sDput_u, ddCopy_u, List.map_cons, List.map_nil, List.length_cons, List.length_nil, List.cons_append, List.nil_append, List.append_nil, List.getElem?_cons_zero, List.getElem?_cons_succ, List.set_cons_zero, List.set_cons_succ, ofString_inj, ofString_beq, ei, ec, em, ea, ex, ep, en, he]
      | false =>
        have h1 : ¬ M / 14 % 4 = 1 := fun z => hc ⟨he, z⟩
        simp [b__law_made, b__law_made_t1, b__law_made_t2, b__law_made_t3, b__law_made_t4, b__law_made_t5, varK_1, eVar_u, eC_u, aNil_u, acK1_1, acK2_1, aCons_u, tupK_1, eTup_u, ldK_1, lDisp_u, eLK_1, eLMK_1, eL_u, eLM_u, eDiK_1, eDMK_1, eDi_u, eDM_u, opK1_1, opK2_1, opK3_1, eOp_u, negK_1, eNeg_u, slK1_1, slK2_1, slK3_1, slK4_1, ptSK_1, ptN_u, ptS_u, eSlice_u, callK_1, eCall_u, biK_1, blK_1, blK2_1, eBi_u, lBi_u, isiK_1, isiK2_1, eIsi_u, revK_1, revK2_1, lRev_u, andEK_1, andEK_2, orEK_1, orEK_2, notEK_1, orSK_1, ifEK_1, ifEK_2, tofK_1, eAnd_u, eOr_u, eNot_u, eOrS_u, eIf_u, tOf_u, chK1_1, chK2_1, chK3_1, chK3_2, eChain_u, tandK_1, tandK_2, torK_1, torK_2, tnotK_1, tTrue_u, tfAnd_u, tfOr_u, tfNot_u, lcK1_1, lcK2_1, lcK3_1, lcK3_2, lcK4_1, lcK5_1, lcD_n, lcD_c, aLc_u, wipeD_n, wipeD_c, gdName_u, gsK_1, gsNil_u, gdTup_u, gsCons_u, iseqK_1, iseqK2_1, itupK_1, istrK_1, irng1K_1, irng2K_1, seqP_1, seqP_2, iSeq_u, iTupD_u, iStrD_u, iRange1_u, iRange2_u, m1K_1, m1K2_1, m0K_1, s1K_1, eMeth1_u, eMeth0_u, eS1_u, setK_1, asgK_1, asgK2_1, retK_1, expK_1, seqK_1, seqK_2, seqK_3, ifK_1, ifK_2, forK_1, forD_n, forK2_1, forK3_1, forK3_2, forK3_3, fnK_1, fnK_2, gcK_1, sNext_u, sBrk_u, stK_1, stK0_1, stK1_1, stK2_1, sSet_u, sAsg_u, sRet_u, sExp_u, sSeq_u, sIf_u, sFor_u, forD_c, fnD_u, gcFn_u, sSetIx_u, dAdd_i, dAdd_s, dAdd_t, dAdd_l, dSub_i, dCmp_i, dEq_s, dEq_i, dEq_b, dNe_s, dNe_i, dNe_b, dIx_t, dIx_l, dIx_c, dSlice_t, dSlice_l, dSlice_c, dSlice_s, bLen_t, bLen_l, bLen_s, bTup_t, bTup_l, blList_t, blList_l, bInt_i, bInt_t, bInt_f, bMin_i, dIsN_1, dIsN_2, seqL_l, seqL_c, dMod_i, dDiv_i, dMul_r, dMul_l, bLen_c, gc_same, pow12, dicS_d, dicO_1, keyO_s, keyO_i, dgK_1, dgK2_1, diK_1, diK2_f, diK2_t, valD_n, mergeD_n, mergeD_c, putD_n, ienK_1, ppNil_u, ppK_1, ppK2_1, ppK3_1, keysD_n, kdK_1, kdK2_1, ddK_1, ddK2_1, g2K_1, g2K1_1, g2K2_1, g2K3_1, g2K4_1, isDic_d, dpK_1, dpK1_1, dpK2_1, dpK3_1, dbK_1, dbK2_1, bdCopy_1, ddNew_u, dicS_r, dGet_u, dInK_u, valD_c, putD_c, iEnumD_u, ppCons_u, keysD_c, ddDisp_u, eGet2_u, sDput_u, ddCopy_u, List.map_cons, List.map_nil, List.length_cons, List.length_nil, List.cons_append, List.nil_append, List.append_nil, List.getElem?_cons_zero, List.getElem?_cons_succ, List.set_cons_zero, List.set_cons_succ, ofString_inj, ofString_beq, ei, ec, em, ea, ex, ep, en, he, h1]
  obtain ⟨x, hx, pre⟩ := pre
  have hscx : ∀ y ∈ x :: sc, nmOk y := fun y hy => by
    rcases List.mem_cons.mp hy with q | q
    · rw [q]; exact hx
    · exact hsc y q
  have eadd := sD_add x sc (by omega)
  clear em ec ex en ep
  -- the rest, from the sixth row on
  suffices H : ∃ p s' S2, b__law_made_t6 (Fk k) [some (.scr ns), some (.ref j), some (.int deep), some (sD sc), some (.int M), some (.int (M % 14)), some (.int a), some (.str x), none, none, none, none] (StS S j (s + 1)) = some (.rt (Pc.d p) S2) ∧
      (S2 = StS S j s' ∨ ∃ o, S2 = StS S j s' ++ [o]) ∧ s < s' ∧ wf p sc ∧ (cd p ≤ deep.toNat + 2 ∧ (deep = 0 → cd p ≤ 1)) ∧ kn p + 7 * (22 - s').toNat ≤ 1 + 7 * (22 - s).toNat by
    obtain ⟨p, s', S2, h1, h2, h3⟩ := H
    refine ⟨p, s', ?_, h3⟩
    rw [Fk_s]
    show gcFn (fnD 12 (b__law_made (Fk k))) _ _ = _
    rw [gcFn_u, fnD_u]
    simp only [List.map_cons, List.map_nil, List.length_cons, List.length_nil, List.cons_append, List.nil_append]
    rw [show List.replicate (12 - (0 + 1 + 1 + 1 + 1)) none = ([none, none, none, none, none, none, none, none] : Sl) from rfl, pre, h1, fnK_1, gcK_1, StS_len]
    rcases h2 with e | ⟨o, e⟩
    · rw [e, gc_same (by rw [StS_len]; exact Nat.le_refl _)]
    · rw [e, gc_newS ok j s' (okD_pc _ p) (pc_noref p)]
  by_cases c6 : deep = 0 ∨ M % 14 = 0 ∨ 22 < s + 1
  · obtain ⟨p, el, hw, hcd, hkn⟩ := leaf_D (k := k) (by omega) (M / 14) (by omega) sc hsc (StS S j (s + 1))
    refine ⟨p, s + 1, _, ?_, .inl rfl, by omega, hw, by omega, by omega⟩
    by_cases d0 : deep = 0
    · subst d0
      simp [b__law_made_t6, varK_1, eVar_u, eC_u, aNil_u, acK1_1, acK2_1, aCons_u, tupK_1, eTup_u, ldK_1, lDisp_u, eLK_1, eLMK_1, eL_u, eLM_u, eDiK_1, eDMK_1, eDi_u, eDM_u, opK1_1, opK2_1, opK3_1, eOp_u, negK_1, eNeg_u, slK1_1, slK2_1, slK3_1, slK4_1, ptSK_1, ptN_u, ptS_u, eSlice_u, callK_1, eCall_u, biK_1, blK_1, blK2_1, eBi_u, lBi_u, isiK_1, isiK2_1, eIsi_u, revK_1, revK2_1, lRev_u, andEK_1, andEK_2, orEK_1, orEK_2, notEK_1, orSK_1, ifEK_1, ifEK_2, tofK_1, eAnd_u, eOr_u, eNot_u, eOrS_u, eIf_u, tOf_u, chK1_1, chK2_1, chK3_1, chK3_2, eChain_u, tandK_1, tandK_2, torK_1, torK_2, tnotK_1, tTrue_u, tfAnd_u, tfOr_u, tfNot_u, lcK1_1, lcK2_1, lcK3_1, lcK3_2, lcK4_1, lcK5_1, lcD_n, lcD_c, aLc_u, wipeD_n, wipeD_c, gdName_u, gsK_1, gsNil_u, gdTup_u, gsCons_u, iseqK_1, iseqK2_1, itupK_1, istrK_1, irng1K_1, irng2K_1, seqP_1, seqP_2, iSeq_u, iTupD_u, iStrD_u, iRange1_u, iRange2_u, m1K_1, m1K2_1, m0K_1, s1K_1, eMeth1_u, eMeth0_u, eS1_u, setK_1, asgK_1, asgK2_1, retK_1, expK_1, seqK_1, seqK_2, seqK_3, ifK_1, ifK_2, forK_1, forD_n, forK2_1, forK3_1, forK3_2, forK3_3, fnK_1, fnK_2, gcK_1, sNext_u, sBrk_u, stK_1, stK0_1, stK1_1, stK2_1, sSet_u, sAsg_u, sRet_u, sExp_u, sSeq_u, sIf_u, sFor_u, forD_c, fnD_u, gcFn_u, sSetIx_u, dAdd_i, dAdd_s, dAdd_t, dAdd_l, dSub_i, dCmp_i, dEq_s, dEq_i, dEq_b, dNe_s, dNe_i, dNe_b, dIx_t, dIx_l, dIx_c, dSlice_t, dSlice_l, dSlice_c, dSlice_s, bLen_t, bLen_l, bLen_s, bTup_t, bTup_l, blList_t, blList_l, bInt_i, bInt_t, bInt_f, bMin_i, dIsN_1, dIsN_2, seqL_l, seqL_c, dMod_i, dDiv_i, dMul_r, dMul_l, bLen_c, gc_same, pow12, dicS_d, dicO_1, keyO_s, keyO_i, dgK_1, dgK2_1, diK_1, diK2_f, diK2_t, valD_n, mergeD_n, mergeD_c, putD_n, ienK_1, ppNil_u, ppK_1, ppK2_1, ppK3_1, keysD_n, kdK_1, kdK2_1, ddK_1, ddK2_1, g2K_1, g2K1_1, g2K2_1, g2K3_1, g2K4_1, isDic_d, dpK_1, dpK1_1, dpK2_1, dpK3_1, dbK_1, dbK2_1, bdCopy_1, ddNew_u, dicS_r, dGet_u, dInK_u, valD_c, putD_c, iEnumD_u, ppCons_u, keysD_c, ddDisp_u, eGet2_u, sDput_u, ddCopy_u, List.map_cons, List.map_nil, List.length_cons, List.length_nil, List.cons_append, List.nil_append, List.append_nil, List.getElem?_cons_zero, List.getElem?_cons_succ, List.set_cons_zero, List.set_cons_succ, ofString_inj, ofString_beq, el]
    · by_cases w0 : M % 14 = 0
      · simp [b__law_made_t6, varK_1, eVar_u, eC_u, aNil_u, acK1_1, acK2_1, aCons_u, tupK_1, eTup_u, ldK_1, lDisp_u, eLK_1, eLMK_1, eL_u, eLM_u, eDiK_1, eDMK_1, eDi_u, eDM_u, opK1_1, opK2_1, opK3_1, eOp_u, negK_1, eNeg_u, slK1_1, slK2_1, slK3_1, slK4_1, ptSK_1, ptN_u, ptS_u, eSlice_u, callK_1, eCall_u, biK_1, blK_1, blK2_1, eBi_u, lBi_u, isiK_1, isiK2_1, eIsi_u, revK_1, revK2_1, lRev_u, andEK_1, andEK_2, orEK_1, orEK_2, notEK_1, orSK_1, ifEK_1, ifEK_2, tofK_1, eAnd_u, eOr_u, eNot_u, eOrS_u, eIf_u, tOf_u, chK1_1, chK2_1, chK3_1, chK3_2, eChain_u, tandK_1, tandK_2, torK_1, torK_2, tnotK_1, tTrue_u, tfAnd_u, tfOr_u, tfNot_u, lcK1_1, lcK2_1, lcK3_1, lcK3_2, lcK4_1, lcK5_1, lcD_n, lcD_c, aLc_u, wipeD_n, wipeD_c, gdName_u, gsK_1, gsNil_u, gdTup_u, gsCons_u, iseqK_1, iseqK2_1, itupK_1, istrK_1, irng1K_1, irng2K_1, seqP_1, seqP_2, iSeq_u, iTupD_u, iStrD_u, iRange1_u, iRange2_u, m1K_1, m1K2_1, m0K_1, s1K_1, eMeth1_u, eMeth0_u, eS1_u, setK_1, asgK_1, asgK2_1, retK_1, expK_1, seqK_1, seqK_2, seqK_3, ifK_1, ifK_2, forK_1, forD_n, forK2_1, forK3_1, forK3_2, forK3_3, fnK_1, fnK_2, gcK_1, sNext_u, sBrk_u, stK_1, stK0_1, stK1_1, stK2_1, sSet_u, sAsg_u, sRet_u, sExp_u, sSeq_u, sIf_u, sFor_u, forD_c, fnD_u, gcFn_u, sSetIx_u, dAdd_i, dAdd_s, dAdd_t, dAdd_l, dSub_i, dCmp_i, dEq_s, dEq_i, dEq_b, dNe_s, dNe_i, dNe_b, dIx_t, dIx_l, dIx_c, dSlice_t, dSlice_l, dSlice_c, dSlice_s, bLen_t, bLen_l, bLen_s, bTup_t, bTup_l, blList_t, blList_l, bInt_i, bInt_t, bInt_f, bMin_i, dIsN_1, dIsN_2, seqL_l, seqL_c, dMod_i, dDiv_i, dMul_r, dMul_l, bLen_c, gc_same, pow12, dicS_d, dicO_1, keyO_s, keyO_i, dgK_1, dgK2_1, diK_1, diK2_f, diK2_t, valD_n, mergeD_n, mergeD_c, putD_n, ienK_1, ppNil_u, ppK_1, ppK2_1, ppK3_1, keysD_n, kdK_1, kdK2_1, ddK_1, ddK2_1, g2K_1, g2K1_1, g2K2_1, g2K3_1, g2K4_1, isDic_d, dpK_1, dpK1_1, dpK2_1, dpK3_1, dbK_1, dbK2_1, bdCopy_1, ddNew_u, dicS_r, dGet_u, dInK_u, valD_c, putD_c, iEnumD_u, ppCons_u, keysD_c, ddDisp_u, eGet2_u, sDput_u, ddCopy_u, List.map_cons, List.map_nil, List.length_cons, List.length_nil, List.cons_append, List.nil_append, List.append_nil, List.getElem?_cons_zero, List.getElem?_cons_succ, List.set_cons_zero, List.set_cons_succ, ofString_inj, ofString_beq, el, d0, w0]
      · have hs22 : 22 < s + 1 := by omega
        simp [b__law_made_t6, varK_1, eVar_u, eC_u, aNil_u, acK1_1, acK2_1, aCons_u, tupK_1, eTup_u, ldK_1, lDisp_u, eLK_1, eLMK_1, eL_u, eLM_u, eDiK_1, eDMK_1, eDi_u, eDM_u, opK1_1, opK2_1, opK3_1, eOp_u, negK_1, eNeg_u, slK1_1, slK2_1, slK3_1, slK4_1, ptSK_1, ptN_u, ptS_u, eSlice_u, callK_1, eCall_u, biK_1, blK_1, blK2_1, eBi_u, lBi_u, isiK_1, isiK2_1, eIsi_u, revK_1, revK2_1, lRev_u, andEK_1, andEK_2, orEK_1, orEK_2, notEK_1, orSK_1, ifEK_1, ifEK_2, tofK_1, eAnd_u, eOr_u, eNot_u, eOrS_u, eIf_u, tOf_u, chK1_1, chK2_1, chK3_1, chK3_2, eChain_u, tandK_1, tandK_2, torK_1, torK_2, tnotK_1, tTrue_u, tfAnd_u, tfOr_u, tfNot_u, lcK1_1, lcK2_1, lcK3_1, lcK3_2, lcK4_1, lcK5_1, lcD_n, lcD_c, aLc_u, wipeD_n, wipeD_c, gdName_u, gsK_1, gsNil_u, gdTup_u, gsCons_u, iseqK_1, iseqK2_1, itupK_1, istrK_1, irng1K_1, irng2K_1, seqP_1, seqP_2, iSeq_u, iTupD_u, iStrD_u, iRange1_u, iRange2_u, m1K_1, m1K2_1, m0K_1, s1K_1, eMeth1_u, eMeth0_u, eS1_u, setK_1, asgK_1, asgK2_1, retK_1, expK_1, seqK_1, seqK_2, seqK_3, ifK_1, ifK_2, forK_1, forD_n, forK2_1, forK3_1, forK3_2, forK3_3, fnK_1, fnK_2, gcK_1, sNext_u, sBrk_u, stK_1, stK0_1, stK1_1, stK2_1, sSet_u, sAsg_u, sRet_u, sExp_u, sSeq_u, sIf_u, sFor_u, forD_c, fnD_u, gcFn_u, sSetIx_u, dAdd_i, dAdd_s, dAdd_t, dAdd_l, dSub_i, dCmp_i, dEq_s, dEq_i, dEq_b, dNe_s, dNe_i, dNe_b, dIx_t, dIx_l, dIx_c, dSlice_t, dSlice_l, dSlice_c, dSlice_s, bLen_t, bLen_l, bLen_s, bTup_t, bTup_l, blList_t, blList_l, bInt_i, bInt_t, bInt_f, bMin_i, dIsN_1, dIsN_2, seqL_l, seqL_c, dMod_i, dDiv_i, dMul_r, dMul_l, bLen_c, gc_same, pow12, dicS_d, dicO_1, keyO_s, keyO_i, dgK_1, dgK2_1, diK_1, diK2_f, diK2_t, valD_n, mergeD_n, mergeD_c, putD_n, ienK_1, ppNil_u, ppK_1, ppK2_1, ppK3_1, keysD_n, kdK_1, kdK2_1, ddK_1, ddK2_1, g2K_1, g2K1_1, g2K2_1, g2K3_1, g2K4_1, isDic_d, dpK_1, dpK1_1, dpK2_1, dpK3_1, dbK_1, dbK2_1, bdCopy_1, ddNew_u, dicS_r, dGet_u, dInK_u, valD_c, putD_c, iEnumD_u, ppCons_u, keysD_c, ddDisp_u, eGet2_u, sDput_u, ddCopy_u, List.map_cons, List.map_nil, List.length_cons, List.length_nil, List.cons_append, List.nil_append, List.append_nil, List.getElem?_cons_zero, List.getElem?_cons_succ, List.set_cons_zero, List.set_cons_succ, ofString_inj, ofString_beq, el, d0, w0, hs22, ei]
  have d0 : ¬ deep = 0 := fun z => c6 (.inl z)
  have w0 : ¬ M % 14 = 0 := fun z => c6 (.inr (.inl z))
  have hs22 : ¬ 22 < s + 1 := fun z => c6 (.inr (.inr z))
  have e6 : b__law_made_t6 (Fk k) [some (.scr ns), some (.ref j), some (.int deep), some (sD sc), some (.int M), some (.int (M % 14)), some (.int a), some (.str x), none, none, none, none] (StS S j (s + 1)) = b__law_made_t7 (Fk k) [some (.scr ns), some (.ref j), some (.int deep), some (sD sc), some (.int M), some (.int (M % 14)), some (.int a), some (.str x), none, none, none, none] (StS S j (s + 1)) := by
    simp [b__law_made_t6, varK_1, eVar_u, eC_u, aNil_u, acK1_1, acK2_1, aCons_u, tupK_1, eTup_u, ldK_1, lDisp_u, eLK_1, eLMK_1, eL_u, eLM_u, eDiK_1, eDMK_1, eDi_u, eDM_u, opK1_1, opK2_1, opK3_1, eOp_u, negK_1, eNeg_u, slK1_1, slK2_1, slK3_1, slK4_1, ptSK_1, ptN_u, ptS_u, eSlice_u, callK_1, eCall_u, biK_1, blK_1, blK2_1, eBi_u, lBi_u, isiK_1, isiK2_1, eIsi_u, revK_1, revK2_1, lRev_u, andEK_1, andEK_2, orEK_1, orEK_2, notEK_1, orSK_1, ifEK_1, ifEK_2, tofK_1, eAnd_u, eOr_u, eNot_u, eOrS_u, eIf_u, tOf_u, chK1_1, chK2_1, chK3_1, chK3_2, eChain_u, tandK_1, tandK_2, torK_1, torK_2, tnotK_1, tTrue_u, tfAnd_u, tfOr_u, tfNot_u, lcK1_1, lcK2_1, lcK3_1, lcK3_2, lcK4_1, lcK5_1, lcD_n, lcD_c, aLc_u, wipeD_n, wipeD_c, gdName_u, gsK_1, gsNil_u, gdTup_u, gsCons_u, iseqK_1, iseqK2_1, itupK_1, istrK_1, irng1K_1, irng2K_1, seqP_1, seqP_2, iSeq_u, iTupD_u, iStrD_u, iRange1_u, iRange2_u, m1K_1, m1K2_1, m0K_1, s1K_1, eMeth1_u, eMeth0_u, eS1_u, setK_1, asgK_1, asgK2_1, retK_1, expK_1, seqK_1, seqK_2, seqK_3, ifK_1, ifK_2, forK_1, forD_n, forK2_1, forK3_1, forK3_2, forK3_3, fnK_1, fnK_2, gcK_1, sNext_u, sBrk_u, stK_1, stK0_1, stK1_1, stK2_1, sSet_u, sAsg_u, sRet_u, sExp_u, sSeq_u, sIf_u, sFor_u, forD_c, fnD_u, gcFn_u, sSetIx_u, dAdd_i, dAdd_s, dAdd_t, dAdd_l, dSub_i, dCmp_i, dEq_s, dEq_i, dEq_b, dNe_s, dNe_i, dNe_b, dIx_t, dIx_l, dIx_c, dSlice_t, dSlice_l, dSlice_c, dSlice_s, bLen_t, bLen_l, bLen_s, bTup_t, bTup_l, blList_t, blList_l, bInt_i, bInt_t, bInt_f, bMin_i, dIsN_1, dIsN_2, seqL_l, seqL_c, dMod_i, dDiv_i, dMul_r, dMul_l, bLen_c, gc_same, pow12, dicS_d, dicO_1, keyO_s, keyO_i, dgK_1, dgK2_1, diK_1, diK2_f, diK2_t, valD_n, mergeD_n, mergeD_c, putD_n, ienK_1, ppNil_u, ppK_1, ppK2_1, ppK3_1, keysD_n, kdK_1, kdK2_1, ddK_1, ddK2_1, g2K_1, g2K1_1, g2K2_1, g2K3_1, g2K4_1, isDic_d, dpK_1, dpK1_1, dpK2_1, dpK3_1, dbK_1, dbK2_1, bdCopy_1, ddNew_u, dicS_r, dGet_u, dInK_u, valD_c, putD_c, iEnumD_u, ppCons_u, keysD_c, ddDisp_u, eGet2_u, sDput_u, ddCopy_u, List.map_cons, List.map_nil, List.length_cons, List.length_nil, List.cons_append, List.nil_append, List.append_nil, List.getElem?_cons_zero, List.getElem?_cons_succ, List.set_cons_zero, List.set_cons_succ, ofString_inj, ofString_beq, d0, w0, hs22, ei]
  rw [e6]
  clear e6 c6
  by_cases c1 : M % 14 = 1
  · obtain ⟨p, s', eq, h1, hw, hcd, hkn⟩ := hm ns S j (deep - 1) (s + 1) (x :: sc) hj ok (by omega) (by omega) hscx (by simp only [List.length_cons]; omega) (by omega)
    refine ⟨.fn a x p, s', _, ?_, .inl rfl, by omega, ⟨ha, hx, hw⟩, by simp only [cd]; omega, by simp only [kn]; omega⟩
    simp [b__law_made_t7, varK_1, eVar_u, eC_u, aNil_u, acK1_1, acK2_1, aCons_u, tupK_1, eTup_u, ldK_1, lDisp_u, eLK_1, eLMK_1, eL_u, eLM_u, eDiK_1, eDMK_1, eDi_u, eDM_u, opK1_1, opK2_1, opK3_1, eOp_u, negK_1, eNeg_u, slK1_1, slK2_1, slK3_1, slK4_1, ptSK_1, ptN_u, ptS_u, eSlice_u, callK_1, eCall_u, biK_1, blK_1, blK2_1, eBi_u, lBi_u, isiK_1, isiK2_1, eIsi_u, revK_1, revK2_1, lRev_u, andEK_1, andEK_2, orEK_1, orEK_2, notEK_1, orSK_1, ifEK_1, ifEK_2, tofK_1, eAnd_u, eOr_u, eNot_u, eOrS_u, eIf_u, tOf_u, chK1_1, chK2_1, chK3_1, chK3_2, eChain_u, tandK_1, tandK_2, torK_1, torK_2, tnotK_1, tTrue_u, tfAnd_u, tfOr_u, tfNot_u, lcK1_1, lcK2_1, lcK3_1, lcK3_2, lcK4_1, lcK5_1, lcD_n, lcD_c, aLc_u, wipeD_n, wipeD_c, gdName_u, gsK_1, gsNil_u, gdTup_u, gsCons_u, iseqK_1, iseqK2_1, itupK_1, istrK_1, irng1K_1, irng2K_1, seqP_1, seqP_2, iSeq_u, iTupD_u, iStrD_u, iRange1_u, iRange2_u, m1K_1, m1K2_1, m0K_1, s1K_1, eMeth1_u, eMeth0_u, eS1_u, setK_1, asgK_1, asgK2_1, retK_1, expK_1, seqK_1, seqK_2, seqK_3, ifK_1, ifK_2, forK_1, forD_n, forK2_1, forK3_1, forK3_2, forK3_3, fnK_1, fnK_2, gcK_1, sNext_u, sBrk_u, stK_1, stK0_1, stK1_1, stK2_1, sSet_u, sAsg_u, sRet_u, sExp_u, sSeq_u, sIf_u, sFor_u, forD_c, fnD_u, gcFn_u, sSetIx_u, dAdd_i, dAdd_s, dAdd_t, dAdd_l, dSub_i, dCmp_i, dEq_s, dEq_i, dEq_b, dNe_s, dNe_i, dNe_b, dIx_t, dIx_l, dIx_c, dSlice_t, dSlice_l, dSlice_c, dSlice_s, bLen_t, bLen_l, bLen_s, bTup_t, bTup_l, blList_t, blList_l, bInt_i, bInt_t, bInt_f, bMin_i, dIsN_1, dIsN_2, seqL_l, seqL_c, dMod_i, dDiv_i, dMul_r, dMul_l, bLen_c, gc_same, pow12, dicS_d, dicO_1, keyO_s, keyO_i, dgK_1, dgK2_1, diK_1, diK2_f, diK2_t, valD_n, mergeD_n, mergeD_c, putD_n, ienK_1, ppNil_u, ppK_1, ppK2_1, ppK3_1, keysD_n, kdK_1, kdK2_1, ddK_1, ddK2_1, g2K_1, g2K1_1, g2K2_1, g2K3_1, g2K4_1, isDic_d, dpK_1, dpK1_1, dpK2_1, dpK3_1, dbK_1, dbK2_1, bdCopy_1, ddNew_u, dicS_r, dGet_u, dInK_u, valD_c, putD_c, iEnumD_u, ppCons_u, keysD_c, ddDisp_u, eGet2_u, sDput_u, ddCopy_u, List.map_cons, List.map_nil, List.length_cons, List.length_nil, List.cons_append, List.nil_append, List.append_nil, List.getElem?_cons_zero, List.getElem?_cons_succ, List.set_cons_zero, List.set_cons_succ, ofString_inj, ofString_beq, c1, eadd, eq, pfn]
  by_cases c5 : M % 14 < 5
  · obtain ⟨a2, ea2, ha2⟩ := mark_D (k := k) (by omega) (M / 41) (StS S j (s + 1))
    have q : ∃ p s1, Fk k ._law_made [.scr ns, .ref j, .int (deep - 2 + (if deep = 1 then 1 else 0)), sD (x :: sc)] (StS S j (s + 1)) = some (p.d, StS S j s1) ∧ s + 1 < s1 ∧ wf p (x :: sc) ∧ (cd p ≤ (deep - 2 + (if deep = 1 then 1 else 0)).toNat + 2 ∧ ((deep - 2 + (if deep = 1 then 1 else 0)) = 0 → cd p ≤ 1)) ∧ kn p + 7 * (22 - s1).toNat ≤ 1 + 7 * (22 - (s + 1)).toNat := by
      refine hm ns S j _ (s + 1) (x :: sc) hj ok (by omega) ?_ hscx ?_ ?_
      · split <;> omega
      · simp only [List.length_cons]; split <;> omega
      · split <;> omega
    obtain ⟨p, s1, eq, h1, hw, hcd, hkn⟩ := q
    obtain ⟨p2, s2, eq2, h2, hw2, hcd2, hkn2⟩ := hm ns S j (deep - 1) s1 sc hj ok (by omega) (by omega) hsc (by omega) (by omega)
    obtain ⟨a3, ea3, ha3⟩ := mark_D (k := k) (by omega) (M / 41) (StS S j s1)
    refine ⟨.call a (.fn a3 x p) p2, s2, _, ?_, .inl rfl, by omega, ⟨ha, ⟨ha3, hx, hw⟩, hw2⟩, ?_, by simp only [kn]; omega⟩
    · by_cases d1 : deep = 1
      · subst d1
        simp at eq eq2
        simp [b__law_made_t7, b__law_made_t8, varK_1, eVar_u, eC_u, aNil_u, acK1_1, acK2_1, aCons_u, tupK_1, eTup_u, ldK_1, lDisp_u, eLK_1, eLMK_1, eL_u, eLM_u, eDiK_1, eDMK_1, eDi_u, eDM_u, opK1_1, opK2_1, opK3_1, eOp_u, negK_1, eNeg_u, slK1_1, slK2_1, slK3_1, slK4_1, ptSK_1, ptN_u, ptS_u, eSlice_u, callK_1, eCall_u, biK_1, blK_1, blK2_1, eBi_u, lBi_u, isiK_1, isiK2_1, eIsi_u, revK_1, revK2_1, lRev_u, andEK_1, andEK_2, orEK_1, orEK_2, notEK_1, orSK_1, ifEK_1, ifEK_2, tofK_1, eAnd_u, eOr_u, eNot_u, eOrS_u, eIf_u, tOf_u, chK1_1, chK2_1, chK3_1, chK3_2, eChain_u, tandK_1, tandK_2, torK_1, torK_2, tnotK_1, tTrue_u, tfAnd_u, tfOr_u, tfNot_u, lcK1_1, lcK2_1, lcK3_1, lcK3_2, lcK4_1, lcK5_1, lcD_n, lcD_c, aLc_u, wipeD_n, wipeD_c, gdName_u, gsK_1, gsNil_u, gdTup_u, gsCons_u, iseqK_1, iseqK2_1, itupK_1, istrK_1, irng1K_1, irng2K_1, seqP_1, seqP_2, iSeq_u, iTupD_u, iStrD_u, iRange1_u, iRange2_u, m1K_1, m1K2_1, m0K_1, s1K_1, eMeth1_u, eMeth0_u, eS1_u, setK_1, asgK_1, asgK2_1, retK_1, expK_1, seqK_1, seqK_2, seqK_3, ifK_1, ifK_2, forK_1, forD_n, forK2_1, forK3_1, forK3_2, forK3_3, fnK_1, fnK_2, gcK_1, sNext_u, sBrk_u, stK_1, stK0_1, stK1_1, stK2_1, sSet_u, sAsg_u, sRet_u, sExp_u, sSeq_u, sIf_u, sFor_u, forD_c, fnD_u, gcFn_u, sSetIx_u, dAdd_i, dAdd_s, dAdd_t, dAdd_l, dSub_i, dCmp_i, dEq_s, dEq_i, dEq_b, dNe_s, dNe_i, dNe_b, dIx_t, dIx_l, dIx_c, dSlice_t, dSlice_l, dSlice_c, dSlice_s, bLen_t, bLen_l, bLen_s, bTup_t, bTup_l, blList_t, blList_l, bInt_i, bInt_t, bInt_f, bMin_i, dIsN_1, dIsN_2, seqL_l, seqL_c, dMod_i, dDiv_i, dMul_r, dMul_l, bLen_c, gc_same, pow12, dicS_d, dicO_1, keyO_s, keyO_i, dgK_1, dgK2_1, diK_1, diK2_f, diK2_t, valD_n, mergeD_n, mergeD_c, putD_n, ienK_1, ppNil_u, ppK_1, ppK2_1, ppK3_1, keysD_n, kdK_1, kdK2_1, ddK_1, ddK2_1, g2K_1, g2K1_1, g2K2_1, g2K3_1, g2K4_1, isDic_d, dpK_1, dpK1_1, dpK2_1, dpK3_1, dbK_1, dbK2_1, bdCopy_1, ddNew_u, dicS_r, dGet_u, dInK_u, valD_c, putD_c, iEnumD_u, ppCons_u, keysD_c, ddDisp_u, eGet2_u, sDput_u, ddCopy_u, List.map_cons, List.map_nil, List.length_cons, List.length_nil, List.cons_append, List.nil_append, List.append_nil, List.getElem?_cons_zero, List.getElem?_cons_succ, List.set_cons_zero, List.set_cons_succ, ofString_inj, ofString_beq, c1, c5, eadd, eq, eq2, ea3, pfn, pcall]
      · simp [d1] at eq
        simp [b__law_made_t7, b__law_made_t8, varK_1, eVar_u, eC_u, aNil_u, acK1_1, acK2_1, aCons_u, tupK_1, eTup_u, ldK_1, lDisp_u, eLK_1, eLMK_1, eL_u, eLM_u, eDiK_1, eDMK_1, eDi_u, eDM_u, opK1_1, opK2_1, opK3_1, eOp_u, negK_1, eNeg_u, slK1_1, slK2_1, slK3_1, slK4_1, ptSK_1, ptN_u, ptS_u, eSlice_u, callK_1, eCall_u, biK_1, blK_1, blK2_1, eBi_u, lBi_u, isiK_1, isiK2_1, eIsi_u, revK_1, revK2_1, lRev_u, andEK_1, andEK_2, orEK_1, orEK_2, notEK_1, orSK_1, ifEK_1, ifEK_2, tofK_1, eAnd_u, eOr_u, eNot_u, eOrS_u, eIf_u, tOf_u, chK1_1, chK2_1, chK3_1, chK3_2, eChain_u, tandK_1, tandK_2, torK_1, torK_2, tnotK_1, tTrue_u, tfAnd_u, tfOr_u, tfNot_u, lcK1_1, lcK2_1, lcK3_1, lcK3_2, lcK4_1, lcK5_1, lcD_n, lcD_c, aLc_u, wipeD_n, wipeD_c, gdName_u, gsK_1, gsNil_u, gdTup_u, gsCons_u, iseqK_1, iseqK2_1, itupK_1, istrK_1, irng1K_1, irng2K_1, seqP_1, seqP_2, iSeq_u, iTupD_u, iStrD_u, iRange1_u, iRange2_u, m1K_1, m1K2_1, m0K_1, s1K_1, eMeth1_u, eMeth0_u, eS1_u, setK_1, asgK_1, asgK2_1, retK_1, expK_1, seqK_1, seqK_2, seqK_3, ifK_1, ifK_2, forK_1, forD_n, forK2_1, forK3_1, forK3_2, forK3_3, fnK_1, fnK_2, gcK_1, sNext_u, sBrk_u, stK_1, stK0_1, stK1_1, stK2_1, sSet_u, sAsg_u, sRet_u, sExp_u, sSeq_u, sIf_u, sFor_u, forD_c, fnD_u, gcFn_u, sSetIx_u, dAdd_i, dAdd_s, dAdd_t, dAdd_l, dSub_i, dCmp_i, dEq_s, dEq_i, dEq_b, dNe_s, dNe_i, dNe_b, dIx_t, dIx_l, dIx_c, dSlice_t, dSlice_l, dSlice_c, dSlice_s, bLen_t, bLen_l, bLen_s, bTup_t, bTup_l, blList_t, blList_l, bInt_i, bInt_t, bInt_f, bMin_i, dIsN_1, dIsN_2, seqL_l, seqL_c, dMod_i, dDiv_i, dMul_r, dMul_l, bLen_c, gc_same, pow12, dicS_d, dicO_1, keyO_s, keyO_i, dgK_1, dgK2_1, diK_1, diK2_f, diK2_t, valD_n, mergeD_n, mergeD_c, putD_n, ienK_1, ppNil_u, ppK_1, ppK2_1, ppK3_1, keysD_n, kdK_1, kdK2_1, ddK_1, ddK2_1, g2K_1, g2K1_1, g2K2_1, g2K3_1, g2K4_1, isDic_d, dpK_1, dpK1_1, dpK2_1, dpK3_1, dbK_1, dbK2_1, bdCopy_1, ddNew_u, dicS_r, dGet_u, dInK_u, valD_c, putD_c, iEnumD_u, ppCons_u, keysD_c, ddDisp_u, eGet2_u, sDput_u, ddCopy_u, List.map_cons, List.map_nil, List.length_cons, List.length_nil, List.cons_append, List.nil_append, List.append_nil, List.getElem?_cons_zero, List.getElem?_cons_succ, List.set_cons_zero, List.set_cons_succ, ofString_inj, ofString_beq, c1, c5, d1, eadd, eq, eq2, ea3, pfn, pcall]
    · simp only [cd]
      split at hcd <;> omega
  have en := dNe_nil hsc
  by_cases c7 : M % 14 < 7 ∧ sc.isEmpty = false
  · obtain ⟨c7, he⟩ := c7
    have hl0 : 0 < sc.length := by cases sc with | nil => cases he | cons _ _ => simp
    have hmin : 0 < (if (sc.length : Int) < 2 then (sc.length : Int) else 2) ∧ (if (sc.length : Int) < 2 then (sc.length : Int) else 2) ≤ sc.length := by split <;> omega
    generalize hmn : (if (sc.length : Int) < 2 then (sc.length : Int) else 2) = mn at hmin
    obtain ⟨y, hy, iy⟩ := sD_ix (sc := sc) (i := M / 14 % mn) (Int.emod_nonneg _ (by omega)) (by have := Int.emod_lt_of_pos (M / 14) hmin.1; omega)
    obtain ⟨p, s', eq, h1, hw, hcd, hkn⟩ := hm ns S j (deep - 1) (s + 1) sc hj ok (by omega) (by omega) hsc (by omega) (by omega)
    have bm : ∀ S, bMin [.int 2, .int sc.length] S = some (.int mn) := fun S => by rw [bMin_i, hmn]
    have mp := hmin.1
    refine ⟨.call a (.name y) p, s', _, ?_, .inl rfl, by omega, ⟨ha, ⟨hy, hsc y hy⟩, hw⟩, by simp only [cd]; omega, by simp only [kn]; omega⟩
    simp [b__law_made_t7, b__law_made_t8, b__law_made_t9, varK_1, eVar_u, eC_u, aNil_u, acK1_1, acK2_1, aCons_u, tupK_1, eTup_u, ldK_1, lDisp_u, eLK_1, eLMK_1, eL_u, eLM_u, eDiK_1, eDMK_1, eDi_u, eDM_u, opK1_1, opK2_1, opK3_1, eOp_u, negK_1, eNeg_u, slK1_1, slK2_1, slK3_1, slK4_1, ptSK_1, ptN_u, ptS_u, eSlice_u, callK_1, eCall_u, biK_1, blK_1, blK2_1, eBi_u, lBi_u, isiK_1, isiK2_1, eIsi_u, revK_1, revK2_1, lRev_u, andEK_1, andEK_2, orEK_1, orEK_2, notEK_1, orSK_1, ifEK_1, ifEK_2, tofK_1, eAnd_u, eOr_u, eNot_u, eOrS_u, eIf_u, tOf_u, chK1_1, chK2_1, chK3_1, chK3_2, eChain_u, tandK_1, tandK_2, torK_1, torK_2, tnotK_1, tTrue_u, tfAnd_u, tfOr_u, tfNot_u, lcK1_1, lcK2_1, lcK3_1, lcK3_2, lcK4_1, lcK5_1, lcD_n, lcD_c, aLc_u, wipeD_n, wipeD_c, gdName_u, gsK_1, gsNil_u, gdTup_u, gsCons_u, iseqK_1, iseqK2_1, itupK_1, istrK_1, irng1K_1, irng2K_1, seqP_1, seqP_2, iSeq_u, iTupD_u, iStrD_u, iRange1_u, iRange2_u, m1K_1, m1K2_1, m0K_1, s1K_1, eMeth1_u, eMeth0_u, eS1_u, setK_1, asgK_1, asgK2_1, retK_1, expK_1, seqK_1, seqK_2, seqK_3, ifK_1, ifK_2, forK_1, forD_n, forK2_1, forK3_1, forK3_2, forK3_3, fnK_1, fnK_2, gcK_1, sNext_u, sBrk_u, stK_1, stK0_1, stK1_1, stK2_1, sSet_u, sAsg_u, sRet_u, sExp_u, sSeq_u, sIf_u, sFor_u, forD_c, fnD_u, gcFn_u, sSetIx_u, dAdd_i, dAdd_s, dAdd_t, dAdd_l, dSub_i, dCmp_i, dEq_s, dEq_i, dEq_b, dNe_s, dNe_i, dNe_b, dIx_t, dIx_l, dIx_c, dSlice_t, dSlice_l, dSlice_c, dSlice_s, bLen_t, bLen_l, bLen_s, bTup_t, bTup_l, blList_t, blList_l, bInt_i, bInt_t, bInt_f, bMin_i, dIsN_1, dIsN_2, seqL_l, seqL_c, dMod_i, dDiv_i, dMul_r, dMul_l, bLen_c, gc_same, pow12, dicS_d, dicO_1, keyO_s, keyO_i, dgK_1, dgK2_1, diK_1, diK2_f, diK2_t, valD_n, mergeD_n, mergeD_c, putD_n, ienK_1, ppNil_u, ppK_1, ppK2_1, ppK3_1, keysD_n, kdK_1, kdK2_1, ddK_1, ddK2_1, g2K_1, g2K1_1, g2K2_1, g2K3_1, g2K4_1, isDic_d, dpK_1, dpK1_1, dpK2_1, dpK3_1, dbK_1, dbK2_1, bdCopy_1, ddNew_u, dicS_r, dGet_u, dInK_u, valD_c, putD_c, iEnumD_u, ppCons_u, keysD_c, ddDisp_u, eGet2_u, sDput_u, ddCopy_u, List.map_cons, List.map_nil, List.length_cons, List.length_nil, List.cons_append, List.nil_append, List.append_nil, List.getElem?_cons_zero, List.getElem?_cons_succ, List.set_cons_zero, List.set_cons_succ, ofString_inj, ofString_beq, c1, c5, c7, en, he, sD_len, bm, mp, iy, eq, pname, pcall, -bMin_i]
  have e9 : b__law_made_t7 (Fk k) [some (.scr ns), some (.ref j), some (.int deep), some (sD sc), some (.int M), some (.int (M % 14)), some (.int a), some (.str x), none, none, none, none] (StS S j (s + 1)) = b__law_made_t10 (Fk k) [some (.scr ns), some (.ref j), some (.int deep), some (sD sc), some (.int M), some (.int (M % 14)), some (.int a), some (.str x), none, none, none, none] (StS S j (s + 1)) := by
    by_cases c7' : M % 14 < 7
    · have he : sc.isEmpty = true := by
        cases he : sc.isEmpty with
        | true => rfl
        | false => exact absurd ⟨c7', he⟩ c7
      simp [b__law_made_t7, b__law_made_t8, b__law_made_t9, varK_1, eVar_u, eC_u, aNil_u, acK1_1, acK2_1, aCons_u, tupK_1, eTup_u, ldK_1, lDisp_u, eLK_1, eLMK_1, eL_u, eLM_u, eDiK_1, eDMK_1, eDi_u, eDM_u, opK1_1, opK2_1, opK3_1, eOp_u, negK_1, eNeg_u, slK1_1, slK2_1, slK3_1, slK4_1, ptSK_1, ptN_u, ptS_u, eSlice_u, callK_1, eCall_u, biK_1, blK_1, blK2_1, eBi_u, lBi_u, isiK_1, isiK2_1, eIsi_u, revK_1, revK2_1, lRev_u, andEK_1, andEK_2, orEK_1, orEK_2, notEK_1, orSK_1, ifEK_1, ifEK_2, tofK_1, eAnd_u, eOr_u, eNot_u, eOrS_u, eIf_u, tOf_u, chK1_1, chK2_1, chK3_1, chK3_2, eChain_u, tandK_1, tandK_2, torK_1, torK_2, tnotK_1, tTrue_u, tfAnd_u, tfOr_u, tfNot_u, lcK1_1, lcK2_1, lcK3_1, lcK3_2, lcK4_1, lcK5_1, lcD_n, lcD_c, aLc_u, wipeD_n, wipeD_c, gdName_u, gsK_1, gsNil_u, gdTup_u, gsCons_u, iseqK_1, iseqK2_1, itupK_1, istrK_1, irng1K_1, irng2K_1, seqP_1, seqP_2, iSeq_u, iTupD_u, iStrD_u, iRange1_u, iRange2_u, m1K_1, m1K2_1, m0K_1, s1K_1, eMeth1_u, eMeth0_u, eS1_u, setK_1, asgK_1, asgK2_1, retK_1, expK_1, seqK_1, seqK_2, seqK_3, ifK_1, ifK_2, forK_1, forD_n, forK2_1, forK3_1, forK3_2, forK3_3, fnK_1, fnK_2, gcK_1, sNext_u, sBrk_u, stK_1, stK0_1, stK1_1, stK2_1, sSet_u, sAsg_u, sRet_u, sExp_u, sSeq_u, sIf_u, sFor_u, forD_c, fnD_u, gcFn_u, sSetIx_u, dAdd_i, dAdd_s, dAdd_t, dAdd_l, dSub_i, dCmp_i, dEq_s, dEq_i, dEq_b, dNe_s, dNe_i, dNe_b, dIx_t, dIx_l, dIx_c, dSlice_t, dSlice_l, dSlice_c, dSlice_s, bLen_t, bLen_l, bLen_s, bTup_t, bTup_l, blList_t, blList_l, bInt_i, bInt_t, bInt_f, bMin_i, dIsN_1, dIsN_2, seqL_l, seqL_c, dMod_i, dDiv_i, dMul_r, dMul_l, bLen_c, gc_same, pow12, dicS_d, dicO_1, keyO_s, keyO_i, dgK_1, dgK2_1, diK_1, diK2_f, diK2_t, valD_n, mergeD_n, mergeD_c, putD_n, ienK_1, ppNil_u, ppK_1, ppK2_1, ppK3_1, keysD_n, kdK_1, kdK2_1, ddK_1, ddK2_1, g2K_1, g2K1_1, g2K2_1, g2K3_1, g2K4_1, isDic_d, dpK_1, dpK1_1, dpK2_1, dpK3_1, dbK_1, dbK2_1, bdCopy_1, ddNew_u, dicS_r, dGet_u, dInK_u, valD_c, putD_c, iEnumD_u, ppCons_u, keysD_c, ddDisp_u, eGet2_u, sDput_u, ddCopy_u, List.map_cons, List.map_nil, List.length_cons, List.length_nil, List.cons_append, List.nil_append, List.append_nil, List.getElem?_cons_zero, List.getElem?_cons_succ, List.set_cons_zero, List.set_cons_succ, ofString_inj, ofString_beq, c1, c5, c7', en, he]
    · simp [b__law_made_t7, b__law_made_t8, b__law_made_t9, varK_1, eVar_u, eC_u, aNil_u, acK1_1, acK2_1, aCons_u, tupK_1, eTup_u, ldK_1, lDisp_u, eLK_1, eLMK_1, eL_u, eLM_u, eDiK_1, eDMK_1, eDi_u, eDM_u, opK1_1, opK2_1, opK3_1, eOp_u, negK_1, eNeg_u, slK1_1, slK2_1, slK3_1, slK4_1, ptSK_1, ptN_u, ptS_u, eSlice_u, callK_1, eCall_u, biK_1, blK_1, blK2_1, eBi_u, lBi_u, isiK_1, isiK2_1, eIsi_u, revK_1, revK2_1, lRev_u, andEK_1, andEK_2, orEK_1, orEK_2, notEK_1, orSK_1, ifEK_1, ifEK_2, tofK_1, eAnd_u, eOr_u, eNot_u, eOrS_u, eIf_u, tOf_u, chK1_1, chK2_1, chK3_1, chK3_2, eChain_u, tandK_1, tandK_2, torK_1, torK_2, tnotK_1, tTrue_u, tfAnd_u, tfOr_u, tfNot_u, lcK1_1, lcK2_1, lcK3_1, lcK3_2, lcK4_1, lcK5_1, lcD_n, lcD_c, aLc_u, wipeD_n, wipeD_c, gdName_u, gsK_1, gsNil_u, gdTup_u, gsCons_u, iseqK_1, iseqK2_1, itupK_1, istrK_1, irng1K_1, irng2K_1, seqP_1, seqP_2, iSeq_u, iTupD_u, iStrD_u, iRange1_u, iRange2_u, m1K_1, m1K2_1, m0K_1, s1K_1, eMeth1_u, eMeth0_u, eS1_u, setK_1, asgK_1, asgK2_1, retK_1, expK_1, seqK_1, seqK_2, seqK_3, ifK_1, ifK_2, forK_1, forD_n, forK2_1, forK3_1, forK3_2, forK3_3, fnK_1, fnK_2, gcK_1, sNext_u, sBrk_u, stK_1, stK0_1, stK1_1, stK2_1, sSet_u, sAsg_u, sRet_u, sExp_u, sSeq_u, sIf_u, sFor_u, forD_c, fnD_u, gcFn_u, sSetIx_u, dAdd_i, dAdd_s, dAdd_t, dAdd_l, dSub_i, dCmp_i, dEq_s, dEq_i, dEq_b, dNe_s, dNe_i, dNe_b, dIx_t, dIx_l, dIx_c, dSlice_t, dSlice_l, dSlice_c, dSlice_s, bLen_t, bLen_l, bLen_s, bTup_t, bTup_l, blList_t, blList_l, bInt_i, bInt_t, bInt_f, bMin_i, dIsN_1, dIsN_2, seqL_l, seqL_c, dMod_i, dDiv_i, dMul_r, dMul_l, bLen_c, gc_same, pow12, dicS_d, dicO_1, keyO_s, keyO_i, dgK_1, dgK2_1, diK_1, diK2_f, diK2_t, valD_n, mergeD_n, mergeD_c, putD_n, ienK_1, ppNil_u, ppK_1, ppK2_1, ppK3_1, keysD_n, kdK_1, kdK2_1, ddK_1, ddK2_1, g2K_1, g2K1_1, g2K2_1, g2K3_1, g2K4_1, isDic_d, dpK_1, dpK1_1, dpK2_1, dpK3_1, dbK_1, dbK2_1, bdCopy_1, ddNew_u, dicS_r, dGet_u, dInK_u, valD_c, putD_c, iEnumD_u, ppCons_u, keysD_c, ddDisp_u, eGet2_u, sDput_u, ddCopy_u, List.map_cons, List.map_nil, List.length_cons, List.length_nil, List.cons_append, List.nil_append, List.append_nil, List.getElem?_cons_zero, List.getElem?_cons_succ, List.set_cons_zero, List.set_cons_succ, ofString_inj, ofString_beq, c1, c5, c7']
  rw [e9]
  clear e9
  by_cases c77 : M % 14 = 7
  · obtain ⟨p0, s0, eq0, h0, hw0, hcd0, hkn0⟩ := hm ns S j (deep - 1) (s + 1) sc hj ok (by omega) (by omega) hsc (by omega) (by omega)
    obtain ⟨p1, s1, eq1, h1, hw1, hcd1, hkn1⟩ := hm ns S j (deep - 1) s0 sc hj ok (by omega) (by omega) hsc (by omega) (by omega)
    obtain ⟨p2, s2, eq2, h2, hw2, hcd2, hkn2⟩ := hm ns S j (deep - 1) s1 sc hj ok (by omega) (by omega) hsc (by omega) (by omega)
    have r3 : rangeD 0 3 = [.int 0, .int 1, .int 2] := by simp [rangeD, List.range, List.range.loop]
    have k0 := kn_pos p0
    by_cases c2 : M / 14 % 2 = 1
    · refine ⟨.pick a (.num (M / 28 % 5 - 2)) p1 p2, s2, StS S j s2 ++ [.lst [(Pc.num (M / 28 % 5 - 2)).d, p1.d, p2.d]], ?_, .inr ⟨_, rfl⟩, by omega, ⟨ha, ?_, hw1, hw2⟩, by simp only [cd]; omega, by simp only [kn]; omega⟩
      · simp [b__law_made_t10, varK_1, eVar_u, eC_u, aNil_u, acK1_1, acK2_1, aCons_u, tupK_1, eTup_u, ldK_1, lDisp_u, eLK_1, eLMK_1, eL_u, eLM_u, eDiK_1, eDMK_1, eDi_u, eDM_u, opK1_1, opK2_1, opK3_1, eOp_u, negK_1, eNeg_u, slK1_1, slK2_1, slK3_1, slK4_1, ptSK_1, ptN_u, ptS_u, eSlice_u, callK_1, eCall_u, biK_1, blK_1, blK2_1, eBi_u, lBi_u, isiK_1, isiK2_1, eIsi_u, revK_1, revK2_1, lRev_u, andEK_1, andEK_2, orEK_1, orEK_2, notEK_1, orSK_1, ifEK_1, ifEK_2, tofK_1, eAnd_u, eOr_u, eNot_u, eOrS_u, eIf_u, tOf_u, chK1_1, chK2_1, chK3_1, chK3_2, eChain_u, tandK_1, tandK_2, torK_1, torK_2, tnotK_1, tTrue_u, tfAnd_u, tfOr_u, tfNot_u, lcK1_1, lcK2_1, lcK3_1, lcK3_2, lcK4_1, lcK5_1, lcD_n, lcD_c, aLc_u, wipeD_n, wipeD_c, gdName_u, gsK_1, gsNil_u, gdTup_u, gsCons_u, iseqK_1, iseqK2_1, itupK_1, istrK_1, irng1K_1, irng2K_1, seqP_1, seqP_2, iSeq_u, iTupD_u, iStrD_u, iRange1_u, iRange2_u, m1K_1, m1K2_1, m0K_1, s1K_1, eMeth1_u, eMeth0_u, eS1_u, setK_1, asgK_1, asgK2_1, retK_1, expK_1, seqK_1, seqK_2, seqK_3, ifK_1, ifK_2, forK_1, forD_n, forK2_1, forK3_1, forK3_2, forK3_3, fnK_1, fnK_2, gcK_1, sNext_u, sBrk_u, stK_1, stK0_1, stK1_1, stK2_1, sSet_u, sAsg_u, sRet_u, sExp_u, sSeq_u, sIf_u, sFor_u, forD_c, fnD_u, gcFn_u, sSetIx_u, dAdd_i, dAdd_s, dAdd_t, dAdd_l, dSub_i, dCmp_i, dEq_s, dEq_i, dEq_b, dNe_s, dNe_i, dNe_b, dIx_t, dIx_l, dIx_c, dSlice_t, dSlice_l, dSlice_c, dSlice_s, bLen_t, bLen_l, bLen_s, bTup_t, bTup_l, blList_t, blList_l, bInt_i, bInt_t, bInt_f, bMin_i, dIsN_1, dIsN_2, seqL_l, seqL_c, dMod_i, dDiv_i, dMul_r, dMul_l, bLen_c, gc_same, pow12, dicS_d, dicO_1, keyO_s, keyO_i, dgK_1, dgK2_1, diK_1, diK2_f, diK2_t, valD_n, mergeD_n, mergeD_c, putD_n, ienK_1, ppNil_u, ppK_1, ppK2_1, ppK3_1, keysD_n, kdK_1, kdK2_1, ddK_1, ddK2_1, g2K_1, g2K1_1, g2K2_1, g2K3_1, g2K4_1, isDic_d, dpK_1, dpK1_1, dpK2_1, dpK3_1, dbK_1, dbK2_1, bdCopy_1, ddNew_u, dicS_r, dGet_u, dInK_u, valD_c, putD_c, iEnumD_u, ppCons_u, keysD_c, ddDisp_u, eGet2_u, sDput_u, ddCopy_u, List.map_cons, List.map_nil, List.length_cons, List.length_nil, List.cons_append, List.nil_append, List.append_nil, List.getElem?_cons_zero, List.getElem?_cons_succ, List.set_cons_zero, List.set_cons_succ, ofString_inj, ofString_beq, c77, c2, r3, eq0, eq1, eq2, StS_len, dIx_newS, setO_newS, atI, ixN, pnum, ppick]
      · simp only [wf]; omega
    · refine ⟨.pick a p0 p1 p2, s2, StS S j s2 ++ [.lst [p0.d, p1.d, p2.d]], ?_, .inr ⟨_, rfl⟩, by omega, ⟨ha, hw0, hw1, hw2⟩, by simp only [cd]; omega, by simp only [kn]; omega⟩
      simp [b__law_made_t10, varK_1, eVar_u, eC_u, aNil_u, acK1_1, acK2_1, aCons_u, tupK_1, eTup_u, ldK_1, lDisp_u, eLK_1, eLMK_1, eL_u, eLM_u, eDiK_1, eDMK_1, eDi_u, eDM_u, opK1_1, opK2_1, opK3_1, eOp_u, negK_1, eNeg_u, slK1_1, slK2_1, slK3_1, slK4_1, ptSK_1, ptN_u, ptS_u, eSlice_u, callK_1, eCall_u, biK_1, blK_1, blK2_1, eBi_u, lBi_u, isiK_1, isiK2_1, eIsi_u, revK_1, revK2_1, lRev_u, andEK_1, andEK_2, orEK_1, orEK_2, notEK_1, orSK_1, ifEK_1, ifEK_2, tofK_1, eAnd_u, eOr_u, eNot_u, eOrS_u, eIf_u, tOf_u, chK1_1, chK2_1, chK3_1, chK3_2, eChain_u, tandK_1, tandK_2, torK_1, torK_2, tnotK_1, tTrue_u, tfAnd_u, tfOr_u, tfNot_u, lcK1_1, lcK2_1, lcK3_1, lcK3_2, lcK4_1, lcK5_1, lcD_n, lcD_c, aLc_u, wipeD_n, wipeD_c, gdName_u, gsK_1, gsNil_u, gdTup_u, gsCons_u, iseqK_1, iseqK2_1, itupK_1, istrK_1, irng1K_1, irng2K_1, seqP_1, seqP_2, iSeq_u, iTupD_u, iStrD_u, iRange1_u, iRange2_u, m1K_1, m1K2_1, m0K_1, s1K_1, eMeth1_u, eMeth0_u, eS1_u, setK_1, asgK_1, asgK2_1, retK_1, expK_1, seqK_1, seqK_2, seqK_3, ifK_1, ifK_2, forK_1, forD_n, forK2_1, forK3_1, forK3_2, forK3_3, fnK_1, fnK_2, gcK_1, sNext_u, sBrk_u, stK_1, stK0_1, stK1_1, stK2_1, sSet_u, sAsg_u, sRet_u, sExp_u, sSeq_u, sIf_u, sFor_u, forD_c, fnD_u, gcFn_u, sSetIx_u, dAdd_i, dAdd_s, dAdd_t, dAdd_l, dSub_i, dCmp_i, dEq_s, dEq_i, dEq_b, dNe_s, dNe_i, dNe_b, dIx_t, dIx_l, dIx_c, dSlice_t, dSlice_l, dSlice_c, dSlice_s, bLen_t, bLen_l, bLen_s, bTup_t, bTup_l, blList_t, blList_l, bInt_i, bInt_t, bInt_f, bMin_i, dIsN_1, dIsN_2, seqL_l, seqL_c, dMod_i, dDiv_i, dMul_r, dMul_l, bLen_c, gc_same, pow12, dicS_d, dicO_1, keyO_s, keyO_i, dgK_1, dgK2_1, diK_1, diK2_f, diK2_t, valD_n, mergeD_n, mergeD_c, putD_n, ienK_1, ppNil_u, ppK_1, ppK2_1, ppK3_1, keysD_n, kdK_1, kdK2_1, ddK_1, ddK2_1, g2K_1, g2K1_1, g2K2_1, g2K3_1, g2K4_1, isDic_d, dpK_1, dpK1_1, dpK2_1, dpK3_1, dbK_1, dbK2_1, bdCopy_1, ddNew_u, dicS_r, dGet_u, dInK_u, valD_c, putD_c, iEnumD_u, ppCons_u, keysD_c, ddDisp_u, eGet2_u, sDput_u, ddCopy_u, List.map_cons, List.map_nil, List.length_cons, List.length_nil, List.cons_append, List.nil_append, List.append_nil, List.getElem?_cons_zero, List.getElem?_cons_succ, List.set_cons_zero, List.set_cons_succ, ofString_inj, ofString_beq, c77, c2, r3, eq0, eq1, eq2, StS_len, dIx_newS, setO_newS, atI, ixN, ppick]
  obtain ⟨p, s', eq, h1, hw, hcd, hkn⟩ := hm ns S j (deep - 1) (s + 1) sc hj ok (by omega) (by omega) hsc (by omega) (by omega)
  by_cases c10 : M % 14 < 10
  · refine ⟨.rnd p, s', _, ?_, .inl rfl, by omega, hw, by simp only [cd]; omega, by simp only [kn]; omega⟩
    simp [b__law_made_t10, b__law_made_t11, varK_1, eVar_u, eC_u, aNil_u, acK1_1, acK2_1, aCons_u, tupK_1, eTup_u, ldK_1, lDisp_u, eLK_1, eLMK_1, eL_u, eLM_u, eDiK_1, eDMK_1, eDi_u, eDM_u, opK1_1, opK2_1, opK3_1, eOp_u, negK_1, eNeg_u, slK1_1, slK2_1, slK3_1, slK4_1, ptSK_1, ptN_u, ptS_u, eSlice_u, callK_1, eCall_u, biK_1, blK_1, blK2_1, eBi_u, lBi_u, isiK_1, isiK2_1, eIsi_u, revK_1, revK2_1, lRev_u, andEK_1, andEK_2, orEK_1, orEK_2, notEK_1, orSK_1, ifEK_1, ifEK_2, tofK_1, eAnd_u, eOr_u, eNot_u, eOrS_u, eIf_u, tOf_u, chK1_1, chK2_1, chK3_1, chK3_2, eChain_u, tandK_1, tandK_2, torK_1, torK_2, tnotK_1, tTrue_u, tfAnd_u, tfOr_u, tfNot_u, lcK1_1, lcK2_1, lcK3_1, lcK3_2, lcK4_1, lcK5_1, lcD_n, lcD_c, aLc_u, wipeD_n, wipeD_c, gdName_u, gsK_1, gsNil_u, gdTup_u, gsCons_u, iseqK_1, iseqK2_1, itupK_1, istrK_1, irng1K_1, irng2K_1, seqP_1, seqP_2, iSeq_u, iTupD_u, iStrD_u, iRange1_u, iRange2_u, m1K_1, m1K2_1, m0K_1, s1K_1, eMeth1_u, eMeth0_u, eS1_u, setK_1, asgK_1, asgK2_1, retK_1, expK_1, seqK_1, seqK_2, seqK_3, ifK_1, ifK_2, forK_1, forD_n, forK2_1, forK3_1, forK3_2, forK3_3, fnK_1, fnK_2, gcK_1, sNext_u, sBrk_u, stK_1, stK0_1, stK1_1, stK2_1, sSet_u, sAsg_u, sRet_u, sExp_u, sSeq_u, sIf_u, sFor_u, forD_c, fnD_u, gcFn_u, sSetIx_u, dAdd_i, dAdd_s, dAdd_t, dAdd_l, dSub_i, dCmp_i, dEq_s, dEq_i, dEq_b, dNe_s, dNe_i, dNe_b, dIx_t, dIx_l, dIx_c, dSlice_t, dSlice_l, dSlice_c, dSlice_s, bLen_t, bLen_l, bLen_s, bTup_t, bTup_l, blList_t, blList_l, bInt_i, bInt_t, bInt_f, bMin_i, dIsN_1, dIsN_2, seqL_l, seqL_c, dMod_i, dDiv_i, dMul_r, dMul_l, bLen_c, gc_same, pow12, dicS_d, dicO_1, keyO_s, keyO_i, dgK_1, dgK2_1, diK_1, diK2_f, diK2_t, valD_n, mergeD_n, mergeD_c, putD_n, ienK_1, ppNil_u, ppK_1, ppK2_1, ppK3_1, keysD_n, kdK_1, kdK2_1, ddK_1, ddK2_1, g2K_1, g2K1_1, g2K2_1, g2K3_1, g2K4_1, isDic_d, dpK_1, dpK1_1, dpK2_1, dpK3_1, dbK_1, dbK2_1, bdCopy_1, ddNew_u, dicS_r, dGet_u, dInK_u, valD_c, putD_c, iEnumD_u, ppCons_u, keysD_c, ddDisp_u, eGet2_u, sDput_u, ddCopy_u, List.map_cons, List.map_nil, List.length_cons, List.length_nil, List.cons_append, List.nil_append, List.append_nil, List.getElem?_cons_zero, List.getElem?_cons_succ, List.set_cons_zero, List.set_cons_succ, ofString_inj, ofString_beq, c77, c10, eq, prnd]
  by_cases c12 : M % 14 < 12
  · obtain ⟨p, s', eq, h1, hw, hcd, hkn⟩ := hg ns S j (deep - 1) (s + 1) (x :: sc) hj ok (by omega) (by omega) hscx (by simp) (by simp only [List.length_cons]; omega) (by omega)
    refine ⟨.take a x p, s', _, ?_, .inl rfl, by omega, ⟨ha, hx, hw⟩, by simp only [cd]; omega, by simp only [kn]; omega⟩
    simp [b__law_made_t10, b__law_made_t11, b__law_made_t12, varK_1, eVar_u, eC_u, aNil_u, acK1_1, acK2_1, aCons_u, tupK_1, eTup_u, ldK_1, lDisp_u, eLK_1, eLMK_1, eL_u, eLM_u, eDiK_1, eDMK_1, eDi_u, eDM_u, opK1_1, opK2_1, opK3_1, eOp_u, negK_1, eNeg_u, slK1_1, slK2_1, slK3_1, slK4_1, ptSK_1, ptN_u, ptS_u, eSlice_u, callK_1, eCall_u, biK_1, blK_1, blK2_1, eBi_u, lBi_u, isiK_1, isiK2_1, eIsi_u, revK_1, revK2_1, lRev_u, andEK_1, andEK_2, orEK_1, orEK_2, notEK_1, orSK_1, ifEK_1, ifEK_2, tofK_1, eAnd_u, eOr_u, eNot_u, eOrS_u, eIf_u, tOf_u, chK1_1, chK2_1, chK3_1, chK3_2, eChain_u, tandK_1, tandK_2, torK_1, torK_2, tnotK_1, tTrue_u, tfAnd_u, tfOr_u, tfNot_u, lcK1_1, lcK2_1, lcK3_1, lcK3_2, lcK4_1, lcK5_1, lcD_n, lcD_c, aLc_u, wipeD_n, wipeD_c, gdName_u, gsK_1, gsNil_u, gdTup_u, gsCons_u, iseqK_1, iseqK2_1, itupK_1, istrK_1, irng1K_1, irng2K_1, seqP_1, seqP_2, iSeq_u, iTupD_u, iStrD_u, iRange1_u, iRange2_u, m1K_1, m1K2_1, m0K_1, s1K_1, eMeth1_u, eMeth0_u, eS1_u, setK_1, asgK_1, asgK2_1, retK_1, expK_1, seqK_1, seqK_2, seqK_3, ifK_1, ifK_2, forK_1, forD_n, forK2_1, forK3_1, forK3_2, forK3_3, fnK_1, fnK_2, gcK_1, sNext_u, sBrk_u, stK_1, stK0_1, stK1_1, stK2_1, sSet_u, sAsg_u, sRet_u, sExp_u, sSeq_u, sIf_u, sFor_u, forD_c, fnD_u, gcFn_u, sSetIx_u, dAdd_i, dAdd_s, dAdd_t, dAdd_l, dSub_i, dCmp_i, dEq_s, dEq_i, dEq_b, dNe_s, dNe_i, dNe_b, dIx_t, dIx_l, dIx_c, dSlice_t, dSlice_l, dSlice_c, dSlice_s, bLen_t, bLen_l, bLen_s, bTup_t, bTup_l, blList_t, blList_l, bInt_i, bInt_t, bInt_f, bMin_i, dIsN_1, dIsN_2, seqL_l, seqL_c, dMod_i, dDiv_i, dMul_r, dMul_l, bLen_c, gc_same, pow12, dicS_d, dicO_1, keyO_s, keyO_i, dgK_1, dgK2_1, diK_1, diK2_f, diK2_t, valD_n, mergeD_n, mergeD_c, putD_n, ienK_1, ppNil_u, ppK_1, ppK2_1, ppK3_1, keysD_n, kdK_1, kdK2_1, ddK_1, ddK2_1, g2K_1, g2K1_1, g2K2_1, g2K3_1, g2K4_1, isDic_d, dpK_1, dpK1_1, dpK2_1, dpK3_1, dbK_1, dbK2_1, bdCopy_1, ddNew_u, dicS_r, dGet_u, dInK_u, valD_c, putD_c, iEnumD_u, ppCons_u, keysD_c, ddDisp_u, eGet2_u, sDput_u, ddCopy_u, List.map_cons, List.map_nil, List.length_cons, List.length_nil, List.cons_append, List.nil_append, List.append_nil, List.getElem?_cons_zero, List.getElem?_cons_succ, List.set_cons_zero, List.set_cons_succ, ofString_inj, ofString_beq, c77, c10, c12, eadd, eq, ptake]
  obtain ⟨p2, s2, eq2, h2, hw2, hcd2, hkn2⟩ := hm ns S j (deep - 1) s' sc hj ok (by omega) (by omega) hsc (by omega) (by omega)
  by_cases c13 : M / 14 % 7 = 1
  · refine ⟨.call a p p2, s2, _, ?_, .inl rfl, by omega, ⟨ha, hw, hw2⟩, by simp only [cd]; omega, by simp only [kn]; omega⟩
    simp [b__law_made_t10, b__law_made_t11, b__law_made_t12, b__law_made_t13, varK_1, eVar_u, eC_u, aNil_u, acK1_1, acK2_1, aCons_u, tupK_1, eTup_u, ldK_1, lDisp_u, eLK_1, eLMK_1, eL_u, eLM_u, eDiK_1, eDMK_1, eDi_u, eDM_u, opK1_1, opK2_1, opK3_1, eOp_u, negK_1, eNeg_u, slK1_1, slK2_1, slK3_1, slK4_1, ptSK_1, ptN_u, ptS_u, eSlice_u, callK_1, eCall_u, biK_1, blK_1, blK2_1, eBi_u, lBi_u, isiK_1, isiK2_1, eIsi_u, revK_1, revK2_1, lRev_u, andEK_1, andEK_2, orEK_1, orEK_2, notEK_1, orSK_1, ifEK_1, ifEK_2, tofK_1, eAnd_u, eOr_u, eNot_u, eOrS_u, eIf_u, tOf_u, chK1_1, chK2_1, chK3_1, chK3_2, eChain_u, tandK_1, tandK_2, torK_1, torK_2, tnotK_1, tTrue_u, tfAnd_u, tfOr_u, tfNot_u, lcK1_1, lcK2_1, lcK3_1, lcK3_2, lcK4_1, lcK5_1, lcD_n, lcD_c, aLc_u, wipeD_n, wipeD_c, gdName_u, gsK_1, gsNil_u, gdTup_u, gsCons_u, iseqK_1, iseqK2_1, itupK_1, istrK_1, irng1K_1, irng2K_1, seqP_1, seqP_2, iSeq_u, iTupD_u, iStrD_u, iRange1_u, iRange2_u, m1K_1, m1K2_1, m0K_1, s1K_1, eMeth1_u, eMeth0_u, eS1_u, setK_1, asgK_1, asgK2_1, retK_1, expK_1, seqK_1, seqK_2, seqK_3, ifK_1, ifK_2, forK_1, forD_n, forK2_1, forK3_1, forK3_2, forK3_3, fnK_1, fnK_2, gcK_1, sNext_u, sBrk_u, stK_1, stK0_1, stK1_1, stK2_1, sSet_u, sAsg_u, sRet_u, sExp_u, sSeq_u, sIf_u, sFor_u, forD_c, fnD_u, gcFn_u, sSetIx_u, dAdd_i, dAdd_s, dAdd_t, dAdd_l, dSub_i, dCmp_i, dEq_s, dEq_i, dEq_b, dNe_s, dNe_i, dNe_b, dIx_t, dIx_l, dIx_c, dSlice_t, dSlice_l, dSlice_c, dSlice_s, bLen_t, bLen_l, bLen_s, bTup_t, bTup_l, blList_t, blList_l, bInt_i, bInt_t, bInt_f, bMin_i, dIsN_1, dIsN_2, seqL_l, seqL_c, dMod_i, dDiv_i, dMul_r, dMul_l, bLen_c, gc_same, pow12, dicS_d, dicO_1, keyO_s, keyO_i, dgK_1, dgK2_1, diK_1, diK2_f, diK2_t, valD_n, mergeD_n, mergeD_c, putD_n, ienK_1, ppNil_u, ppK_1, ppK2_1, ppK3_1, keysD_n, kdK_1, kdK2_1, ddK_1, ddK2_1, g2K_1, g2K1_1, g2K2_1, g2K3_1, g2K4_1, isDic_d, dpK_1, dpK1_1, dpK2_1, dpK3_1, dbK_1, dbK2_1, bdCopy_1, ddNew_u, dicS_r, dGet_u, dInK_u, valD_c, putD_c, iEnumD_u, ppCons_u, keysD_c, ddDisp_u, eGet2_u, sDput_u, ddCopy_u, List.map_cons, List.map_nil, List.length_cons, List.length_nil, List.cons_append, List.nil_append, List.append_nil, List.getElem?_cons_zero, List.getElem?_cons_succ, List.set_cons_zero, List.set_cons_succ, ofString_inj, ofString_beq, c77, c10, c12, c13, eq, eq2, pcall]
  · refine ⟨.plus a p p2, s2, _, ?_, .inl rfl, by omega, ⟨ha, hw, hw2⟩, by simp only [cd]; omega, by simp only [kn]; omega⟩
    simp [b__law_made_t10, b__law_made_t11, b__law_made_t12, b__law_made_t13, b__law_made_t14, varK_1, eVar_u, eC_u, aNil_u, acK1_1, acK2_1, aCons_u, tupK_1, eTup_u, ldK_1, lDisp_u, eLK_1, eLMK_1, eL_u, eLM_u, eDiK_1, eDMK_1, eDi_u, eDM_u, opK1_1, opK2_1, opK3_1, eOp_u, negK_1, eNeg_u, slK1_1, slK2_1, slK3_1, slK4_1, ptSK_1, ptN_u, ptS_u, eSlice_u, callK_1, eCall_u, biK_1, blK_1, blK2_1, eBi_u, lBi_u, isiK_1, isiK2_1, eIsi_u, revK_1, revK2_1, lRev_u, andEK_1, andEK_2, orEK_1, orEK_2, notEK_1, orSK_1, ifEK_1, ifEK_2, tofK_1, eAnd_u, eOr_u, eNot_u, eOrS_u, eIf_u, tOf_u, chK1_1, chK2_1, chK3_1, chK3_2, eChain_u, tandK_1, tandK_2, torK_1, torK_2, tnotK_1, tTrue_u, tfAnd_u, tfOr_u, tfNot_u, lcK1_1, lcK2_1, lcK3_1, lcK3_2, lcK4_1, lcK5_1, lcD_n, lcD_c, aLc_u, wipeD_n, wipeD_c, gdName_u, gsK_1, gsNil_u, gdTup_u, gsCons_u, iseqK_1, iseqK2_1, itupK_1, istrK_1, irng1K_1, irng2K_1, seqP_1, seqP_2, iSeq_u, iTupD_u, iStrD_u, iRange1_u, iRange2_u, m1K_1, m1K2_1, m0K_1, s1K_1, eMeth1_u, eMeth0_u, eS1_u, setK_1, asgK_1, asgK2_1, retK_1, expK_1, seqK_1, seqK_2, seqK_3, ifK_1, ifK_2, forK_1, forD_n, forK2_1, forK3_1, forK3_2, forK3_3, fnK_1, fnK_2, gcK_1, sNext_u, sBrk_u, stK_1, stK0_1, stK1_1, stK2_1, sSet_u, sAsg_u, sRet_u, sExp_u, sSeq_u, sIf_u, sFor_u, forD_c, fnD_u, gcFn_u, sSetIx_u, dAdd_i, dAdd_s, dAdd_t, dAdd_l, dSub_i, dCmp_i, dEq_s, dEq_i, dEq_b, dNe_s, dNe_i, dNe_b, dIx_t, dIx_l, dIx_c, dSlice_t, dSlice_l, dSlice_c, dSlice_s, bLen_t, bLen_l, bLen_s, bTup_t, bTup_l, blList_t, blList_l, bInt_i, bInt_t, bInt_f, bMin_i, dIsN_1, dIsN_2, seqL_l, seqL_c, dMod_i, dDiv_i, dMul_r, dMul_l, bLen_c, gc_same, pow12, dicS_d, dicO_1, keyO_s, keyO_i, dgK_1, dgK2_1, diK_1, diK2_f, diK2_t, valD_n, mergeD_n, mergeD_c, putD_n, ienK_1, ppNil_u, ppK_1, ppK2_1, ppK3_1, keysD_n, kdK_1, kdK2_1, ddK_1, ddK2_1, g2K_1, g2K1_1, g2K2_1, g2K3_1, g2K4_1, isDic_d, dpK_1, dpK1_1, dpK2_1, dpK3_1, dbK_1, dbK2_1, bdCopy_1, ddNew_u, dicS_r, dGet_u, dInK_u, valD_c, putD_c, iEnumD_u, ppCons_u, keysD_c, ddDisp_u, eGet2_u, sDput_u, ddCopy_u, List.map_cons, List.map_nil, List.length_cons, List.length_nil, List.cons_append, List.nil_append, List.append_nil, List.getElem?_cons_zero, List.getElem?_cons_succ, List.set_cons_zero, List.set_cons_succ, ofString_inj, ofString_beq, c77, c10, c12, c13, eq, eq2, pplus]
theorem made_all : ∀ k, MadeOk k ∧ GoneOk k
  | 0 => ⟨fun ns S j deep s sc _ _ _ _ _ _ h => by omega, fun ns S j deep s sc _ _ _ _ _ _ _ h => by omega⟩
  | k + 1 => ⟨made_D (made_all k).1 (made_all k).2, gone_D (made_all k).1⟩
theorem is_value_D (k : Nat) (p : Pc) (S : List O) : Fk (k + 1) .is_value [p.d] S = some (.bl p.isV, S) := by
  rw [Fk_s]
  cases p <;> simp [bodies, varK_1, eVar_u, eC_u, aNil_u, acK1_1, acK2_1, aCons_u, tupK_1, eTup_u, ldK_1, lDisp_u, eLK_1, eLMK_1, eL_u, eLM_u, eDiK_1, eDMK_1, eDi_u, eDM_u, opK1_1, opK2_1, opK3_1, eOp_u, negK_1, eNeg_u, slK1_1, slK2_1, slK3_1, slK4_1, ptSK_1, ptN_u, ptS_u, eSlice_u, callK_1, eCall_u, biK_1, blK_1, blK2_1, eBi_u, lBi_u, isiK_1, isiK2_1, eIsi_u, revK_1, revK2_1, lRev_u, andEK_1, andEK_2, orEK_1, orEK_2, notEK_1, orSK_1, ifEK_1, ifEK_2, tofK_1, eAnd_u, eOr_u, eNot_u, eOrS_u, eIf_u, tOf_u, chK1_1, chK2_1, chK3_1, chK3_2, eChain_u, tandK_1, tandK_2, torK_1, torK_2, tnotK_1, tTrue_u, tfAnd_u, tfOr_u, tfNot_u, lcK1_1, lcK2_1, lcK3_1, lcK3_2, lcK4_1, lcK5_1, lcD_n, lcD_c, aLc_u, wipeD_n, wipeD_c, gdName_u, gsK_1, gsNil_u, gdTup_u, gsCons_u, iseqK_1, iseqK2_1, itupK_1, istrK_1, irng1K_1, irng2K_1, seqP_1, seqP_2, iSeq_u, iTupD_u, iStrD_u, iRange1_u, iRange2_u, m1K_1, m1K2_1, m0K_1, s1K_1, eMeth1_u, eMeth0_u, eS1_u, setK_1, asgK_1, asgK2_1, retK_1, expK_1, seqK_1, seqK_2, seqK_3, ifK_1, ifK_2, forK_1, forD_n, forK2_1, forK3_1, forK3_2, forK3_3, fnK_1, fnK_2, gcK_1, sNext_u, sBrk_u, stK_1, stK0_1, stK1_1, stK2_1, sSet_u, sAsg_u, sRet_u, sExp_u, sSeq_u, sIf_u, sFor_u, forD_c, fnD_u, gcFn_u, sSetIx_u, dAdd_i, dAdd_s, dAdd_t, dAdd_l, dSub_i, dCmp_i, dEq_s, dEq_i, dEq_b, dNe_s, dNe_i, dNe_b, dIx_t, dIx_l, dIx_c, dSlice_t, dSlice_l, dSlice_c, dSlice_s, bLen_t, bLen_l, bLen_s, bTup_t, bTup_l, blList_t, blList_l, bInt_i, bInt_t, bInt_f, bMin_i, dIsN_1, dIsN_2, seqL_l, seqL_c, dMod_i, dDiv_i, dMul_r, dMul_l, bLen_c, gc_same, pow12, dicS_d, dicO_1, keyO_s, keyO_i, dgK_1, dgK2_1, diK_1, diK2_f, diK2_t, valD_n, mergeD_n, mergeD_c, putD_n, ienK_1, ppNil_u, ppK_1, ppK2_1, ppK3_1, keysD_n, kdK_1, kdK2_1, ddK_1, ddK2_1, g2K_1, g2K1_1, g2K2_1, g2K3_1, g2K4_1, isDic_d, dpK_1, dpK1_1, dpK2_1, dpK3_1, dbK_1, dbK2_1, bdCopy_1, ddNew_u, dicS_r, dGet_u, dInK_u, valD_c, putD_c, iEnumD_u, ppCons_u, keysD_c, ddDisp_u, eGet2_u, sDput_u, ddCopy_u, List.map_cons, List.map_nil, List.length_cons, List.length_nil, List.cons_append, List.nil_append, List.append_nil, List.getElem?_cons_zero, List.getElem?_cons_succ, List.set_cons_zero, List.set_cons_succ, ofString_inj, ofString_beq, Pc.d, Pc.isV, atI, ixN]
theorem is_value_D' {k : Nat} (h : 1 ≤ k) (p : Pc) (S : List O) : Fk k .is_value [p.d] S = some (.bl p.isV, S) := by
  obtain ⟨k, rfl⟩ : ∃ j, k = j + 1 := ⟨k - 1, by omega⟩
  exact is_value_D k p S
theorem cd_pos : ∀ p : Pc, 1 ≤ cd p := by intro p; cases p <;> simp [cd]
theorem cut2 (a b : D) (r : List D) : cutD (a :: b :: r) none (some 2) = [a, b] := by simp [cutD, HT.sIx]
theorem cut3 (a b c : D) (r : List D) : cutD (a :: b :: c :: r) none (some 3) = [a, b, c] := by simp [cutD, HT.sIx]
theorem drop2 (a b : D) (r : List D) : cutD (a :: b :: r) (some 2) none = r := by simp [cutD, HT.sIx]
theorem put_in_D (x : Str) (v : Pc) : ∀ (p : Pc) (k : Nat) (S : List O), cd p + 1 ≤ k → Fk k .put_in [p.d, .str x, v.d] S = some ((put x v p).d, S)
  | p, 0, S, h => by omega
  | .num n, k + 1, S, h => by
    rw [Fk_s]
    have e := is_value_D' (k := k) (by simp [cd] at h; omega) (.num n) S
    simp only [Pc.d, Pc.isV] at e
    simp [bodies, varK_1, eVar_u, eC_u, aNil_u, acK1_1, acK2_1, aCons_u, tupK_1, eTup_u, ldK_1, lDisp_u, eLK_1, eLMK_1, eL_u, eLM_u, eDiK_1, eDMK_1, eDi_u, eDM_u, opK1_1, opK2_1, opK3_1, eOp_u, negK_1, eNeg_u, slK1_1, slK2_1, slK3_1, slK4_1, ptSK_1, ptN_u, ptS_u, eSlice_u, callK_1, eCall_u, biK_1, blK_1, blK2_1, eBi_u, lBi_u, isiK_1, isiK2_1, eIsi_u, revK_1, revK2_1, lRev_u, andEK_1, andEK_2, orEK_1, orEK_2, notEK_1, orSK_1, ifEK_1, ifEK_2, tofK_1, eAnd_u, eOr_u, eNot_u, eOrS_u, eIf_u, tOf_u, chK1_1, chK2_1, chK3_1, chK3_2, eChain_u, tandK_1, tandK_2, torK_1, torK_2, tnotK_1, tTrue_u, tfAnd_u, tfOr_u, tfNot_u, lcK1_1, lcK2_1, lcK3_1, lcK3_2, lcK4_1, lcK5_1, lcD_n, lcD_c, aLc_u, wipeD_n, wipeD_c, gdName_u, gsK_1, gsNil_u, gdTup_u, gsCons_u, iseqK_1, iseqK2_1, itupK_1, istrK_1, irng1K_1, irng2K_1, seqP_1, seqP_2, iSeq_u, iTupD_u, iStrD_u, iRange1_u, iRange2_u, m1K_1, m1K2_1, m0K_1, s1K_1, eMeth1_u, eMeth0_u, eS1_u, setK_1, asgK_1, asgK2_1, retK_1, expK_1, seqK_1, seqK_2, seqK_3, ifK_1, ifK_2, forK_1, forD_n, forK2_1, forK3_1, forK3_2, forK3_3, fnK_1, fnK_2, gcK_1, sNext_u, sBrk_u, stK_1, stK0_1, stK1_1, stK2_1, sSet_u, sAsg_u, sRet_u, sExp_u, sSeq_u, sIf_u, sFor_u, forD_c, fnD_u, gcFn_u, sSetIx_u, dAdd_i, dAdd_s, dAdd_t, dAdd_l, dSub_i, dCmp_i, dEq_s, dEq_i, dEq_b, dNe_s, dNe_i, dNe_b, dIx_t, dIx_l, dIx_c, dSlice_t, dSlice_l, dSlice_c, dSlice_s, bLen_t, bLen_l, bLen_s, bTup_t, bTup_l, blList_t, blList_l, bInt_i, bInt_t, bInt_f, bMin_i, dIsN_1, dIsN_2, seqL_l, seqL_c, dMod_i, dDiv_i, dMul_r, dMul_l, bLen_c, gc_same, pow12, dicS_d, dicO_1, keyO_s, keyO_i, dgK_1, dgK2_1, diK_1, diK2_f, diK2_t, valD_n, mergeD_n, mergeD_c, putD_n, ienK_1, ppNil_u, ppK_1, ppK2_1, ppK3_1, keysD_n, kdK_1, kdK2_1, ddK_1, ddK2_1, g2K_1, g2K1_1, g2K2_1, g2K3_1, g2K4_1, isDic_d, dpK_1, dpK1_1, dpK2_1, dpK3_1, dbK_1, dbK2_1, bdCopy_1, ddNew_u, dicS_r, dGet_u, dInK_u, valD_c, putD_c, iEnumD_u, ppCons_u, keysD_c, ddDisp_u, eGet2_u, sDput_u, ddCopy_u, List.map_cons, List.map_nil, List.length_cons, List.length_nil, List.cons_append, List.nil_append, List.append_nil, List.getElem?_cons_zero, List.getElem?_cons_succ, List.set_cons_zero, List.set_cons_succ, ofString_inj, ofString_beq, e, Pc.isV, put, Pc.d]
  | .shut a y b, k + 1, S, h => by
    rw [Fk_s]
    have e := is_value_D' (k := k) (by simp [cd] at h; omega) (.shut a y b) S
    simp only [Pc.d, Pc.isV] at e
    simp [bodies, varK_1, eVar_u, eC_u, aNil_u, acK1_1, acK2_1, aCons_u, tupK_1, eTup_u, ldK_1, lDisp_u, eLK_1, eLMK_1, eL_u, eLM_u, eDiK_1, eDMK_1, eDi_u, eDM_u, opK1_1, opK2_1, opK3_1, eOp_u, negK_1, eNeg_u, slK1_1, slK2_1, slK3_1, slK4_1, ptSK_1, ptN_u, ptS_u, eSlice_u, callK_1, eCall_u, biK_1, blK_1, blK2_1, eBi_u, lBi_u, isiK_1, isiK2_1, eIsi_u, revK_1, revK2_1, lRev_u, andEK_1, andEK_2, orEK_1, orEK_2, notEK_1, orSK_1, ifEK_1, ifEK_2, tofK_1, eAnd_u, eOr_u, eNot_u, eOrS_u, eIf_u, tOf_u, chK1_1, chK2_1, chK3_1, chK3_2, eChain_u, tandK_1, tandK_2, torK_1, torK_2, tnotK_1, tTrue_u, tfAnd_u, tfOr_u, tfNot_u, lcK1_1, lcK2_1, lcK3_1, lcK3_2, lcK4_1, lcK5_1, lcD_n, lcD_c, aLc_u, wipeD_n, wipeD_c, gdName_u, gsK_1, gsNil_u, gdTup_u, gsCons_u, iseqK_1, iseqK2_1, itupK_1, istrK_1, irng1K_1, irng2K_1, seqP_1, seqP_2, iSeq_u, iTupD_u, iStrD_u, iRange1_u, iRange2_u, m1K_1, m1K2_1, m0K_1, s1K_1, eMeth1_u, eMeth0_u, eS1_u, setK_1, asgK_1, asgK2_1, retK_1, expK_1, seqK_1, seqK_2, seqK_3, ifK_1, ifK_2, forK_1, forD_n, forK2_1, forK3_1, forK3_2, forK3_3, fnK_1, fnK_2, gcK_1, sNext_u, sBrk_u, stK_1, stK0_1, stK1_1, stK2_1, sSet_u, sAsg_u, sRet_u, sExp_u, sSeq_u, sIf_u, sFor_u, forD_c, fnD_u, gcFn_u, sSetIx_u, dAdd_i, dAdd_s, dAdd_t, dAdd_l, dSub_i, dCmp_i, dEq_s, dEq_i, dEq_b, dNe_s, dNe_i, dNe_b, dIx_t, dIx_l, dIx_c, dSlice_t, dSlice_l, dSlice_c, dSlice_s, bLen_t, bLen_l, bLen_s, bTup_t, bTup_l, blList_t, blList_l, bInt_i, bInt_t, bInt_f, bMin_i, dIsN_1, dIsN_2, seqL_l, seqL_c, dMod_i, dDiv_i, dMul_r, dMul_l, bLen_c, gc_same, pow12, dicS_d, dicO_1, keyO_s, keyO_i, dgK_1, dgK2_1, diK_1, diK2_f, diK2_t, valD_n, mergeD_n, mergeD_c, putD_n, ienK_1, ppNil_u, ppK_1, ppK2_1, ppK3_1, keysD_n, kdK_1, kdK2_1, ddK_1, ddK2_1, g2K_1, g2K1_1, g2K2_1, g2K3_1, g2K4_1, isDic_d, dpK_1, dpK1_1, dpK2_1, dpK3_1, dbK_1, dbK2_1, bdCopy_1, ddNew_u, dicS_r, dGet_u, dInK_u, valD_c, putD_c, iEnumD_u, ppCons_u, keysD_c, ddDisp_u, eGet2_u, sDput_u, ddCopy_u, List.map_cons, List.map_nil, List.length_cons, List.length_nil, List.cons_append, List.nil_append, List.append_nil, List.getElem?_cons_zero, List.getElem?_cons_succ, List.set_cons_zero, List.set_cons_succ, ofString_inj, ofString_beq, e, Pc.isV, put, Pc.d]
  | .kept a fs, k + 1, S, h => by
    rw [Fk_s]
    have e := is_value_D' (k := k) (by simp [cd] at h; omega) (.kept a fs) S
    simp only [Pc.d, Pc.isV] at e
    simp [bodies, varK_1, eVar_u, eC_u, aNil_u, acK1_1, acK2_1, aCons_u, tupK_1, eTup_u, ldK_1, lDisp_u, eLK_1, eLMK_1, eL_u, eLM_u, eDiK_1, eDMK_1, eDi_u, eDM_u, opK1_1, opK2_1, opK3_1, eOp_u, negK_1, eNeg_u, slK1_1, slK2_1, slK3_1, slK4_1, ptSK_1, ptN_u, ptS_u, eSlice_u, callK_1, eCall_u, biK_1, blK_1, blK2_1, eBi_u, lBi_u, isiK_1, isiK2_1, eIsi_u, revK_1, revK2_1, lRev_u, andEK_1, andEK_2, orEK_1, orEK_2, notEK_1, orSK_1, ifEK_1, ifEK_2, tofK_1, eAnd_u, eOr_u, eNot_u, eOrS_u, eIf_u, tOf_u, chK1_1, chK2_1, chK3_1, chK3_2, eChain_u, tandK_1, tandK_2, torK_1, torK_2, tnotK_1, tTrue_u, tfAnd_u, tfOr_u, tfNot_u, lcK1_1, lcK2_1, lcK3_1, lcK3_2, lcK4_1, lcK5_1, lcD_n, lcD_c, aLc_u, wipeD_n, wipeD_c, gdName_u, gsK_1, gsNil_u, gdTup_u, gsCons_u, iseqK_1, iseqK2_1, itupK_1, istrK_1, irng1K_1, irng2K_1, seqP_1, seqP_2, iSeq_u, iTupD_u, iStrD_u, iRange1_u, iRange2_u, m1K_1, m1K2_1, m0K_1, s1K_1, eMeth1_u, eMeth0_u, eS1_u, setK_1, asgK_1, asgK2_1, retK_1, expK_1, seqK_1, seqK_2, seqK_3, ifK_1, ifK_2, forK_1, forD_n, forK2_1, forK3_1, forK3_2, forK3_3, fnK_1, fnK_2, gcK_1, sNext_u, sBrk_u, stK_1, stK0_1, stK1_1, stK2_1, sSet_u, sAsg_u, sRet_u, sExp_u, sSeq_u, sIf_u, sFor_u, forD_c, fnD_u, gcFn_u, sSetIx_u, dAdd_i, dAdd_s, dAdd_t, dAdd_l, dSub_i, dCmp_i, dEq_s, dEq_i, dEq_b, dNe_s, dNe_i, dNe_b, dIx_t, dIx_l, dIx_c, dSlice_t, dSlice_l, dSlice_c, dSlice_s, bLen_t, bLen_l, bLen_s, bTup_t, bTup_l, blList_t, blList_l, bInt_i, bInt_t, bInt_f, bMin_i, dIsN_1, dIsN_2, seqL_l, seqL_c, dMod_i, dDiv_i, dMul_r, dMul_l, bLen_c, gc_same, pow12, dicS_d, dicO_1, keyO_s, keyO_i, dgK_1, dgK2_1, diK_1, diK2_f, diK2_t, valD_n, mergeD_n, mergeD_c, putD_n, ienK_1, ppNil_u, ppK_1, ppK2_1, ppK3_1, keysD_n, kdK_1, kdK2_1, ddK_1, ddK2_1, g2K_1, g2K1_1, g2K2_1, g2K3_1, g2K4_1, isDic_d, dpK_1, dpK1_1, dpK2_1, dpK3_1, dbK_1, dbK2_1, bdCopy_1, ddNew_u, dicS_r, dGet_u, dInK_u, valD_c, putD_c, iEnumD_u, ppCons_u, keysD_c, ddDisp_u, eGet2_u, sDput_u, ddCopy_u, List.map_cons, List.map_nil, List.length_cons, List.length_nil, List.cons_append, List.nil_append, List.append_nil, List.getElem?_cons_zero, List.getElem?_cons_succ, List.set_cons_zero, List.set_cons_succ, ofString_inj, ofString_beq, e, Pc.isV, put, Pc.d]
  | .name y, k + 1, S, h => by
    rw [Fk_s]
    have e := is_value_D' (k := k) (by simp [cd] at h; omega) (.name y) S
    simp only [Pc.d, Pc.isV] at e
    by_cases hy : y = x
    · subst hy
      simp [bodies, varK_1, eVar_u, eC_u, aNil_u, acK1_1, acK2_1, aCons_u, tupK_1, eTup_u, ldK_1, lDisp_u, eLK_1, eLMK_1, eL_u, eLM_u, eDiK_1, eDMK_1, eDi_u, eDM_u, opK1_1, opK2_1, opK3_1, eOp_u, negK_1, eNeg_u, slK1_1, slK2_1, slK3_1, slK4_1, ptSK_1, ptN_u, ptS_u, eSlice_u, callK_1, eCall_u, biK_1, blK_1, blK2_1, eBi_u, lBi_u, isiK_1, isiK2_1, eIsi_u, revK_1, revK2_1, lRev_u, andEK_1, andEK_2, orEK_1, orEK_2, notEK_1, orSK_1, ifEK_1, ifEK_2, tofK_1, eAnd_u, eOr_u, eNot_u, eOrS_u, eIf_u, tOf_u, chK1_1, chK2_1, chK3_1, chK3_2, eChain_u, tandK_1, tandK_2, torK_1, torK_2, tnotK_1, tTrue_u, tfAnd_u, tfOr_u, tfNot_u, lcK1_1, lcK2_1, lcK3_1, lcK3_2, lcK4_1, lcK5_1, lcD_n, lcD_c, aLc_u, wipeD_n, wipeD_c, gdName_u, gsK_1, gsNil_u, gdTup_u, gsCons_u, iseqK_1, iseqK2_1, itupK_1, istrK_1, irng1K_1, irng2K_1, seqP_1, seqP_2, iSeq_u, iTupD_u, iStrD_u, iRange1_u, iRange2_u, m1K_1, m1K2_1, m0K_1, s1K_1, eMeth1_u, eMeth0_u, eS1_u, setK_1, asgK_1, asgK2_1, retK_1, expK_1, seqK_1, seqK_2, seqK_3, ifK_1, ifK_2, forK_1, forD_n, forK2_1, forK3_1, forK3_2, forK3_3, fnK_1, fnK_2, gcK_1, sNext_u, sBrk_u, stK_1, stK0_1, stK1_1, stK2_1, sSet_u, sAsg_u, sRet_u, sExp_u, sSeq_u, sIf_u, sFor_u, forD_c, fnD_u, gcFn_u, sSetIx_u, dAdd_i, dAdd_s, dAdd_t, dAdd_l, dSub_i, dCmp_i, dEq_s, dEq_i, dEq_b, dNe_s, dNe_i, dNe_b, dIx_t, dIx_l, dIx_c, dSlice_t, dSlice_l, dSlice_c, dSlice_s, bLen_t, bLen_l, bLen_s, bTup_t, bTup_l, blList_t, blList_l, bInt_i, bInt_t, bInt_f, bMin_i, dIsN_1, dIsN_2, seqL_l, seqL_c, dMod_i, dDiv_i, dMul_r, dMul_l, bLen_c, gc_same, pow12, dicS_d, dicO_1, keyO_s, keyO_i, dgK_1, dgK2_1, diK_1, diK2_f, diK2_t, valD_n, mergeD_n, mergeD_c, putD_n, ienK_1, ppNil_u, ppK_1, ppK2_1, ppK3_1, keysD_n, kdK_1, kdK2_1, ddK_1, ddK2_1, g2K_1, g2K1_1, g2K2_1, g2K3_1, g2K4_1, isDic_d, dpK_1, dpK1_1, dpK2_1, dpK3_1, dbK_1, dbK2_1, bdCopy_1, ddNew_u, dicS_r, dGet_u, dInK_u, valD_c, putD_c, iEnumD_u, ppCons_u, keysD_c, ddDisp_u, eGet2_u, sDput_u, ddCopy_u, List.map_cons, List.map_nil, List.length_cons, List.length_nil, List.cons_append, List.nil_append, List.append_nil, List.getElem?_cons_zero, List.getElem?_cons_succ, List.set_cons_zero, List.set_cons_succ, ofString_inj, ofString_beq, e, Pc.isV, put, Pc.d, atI, ixN]
    · simp [bodies, varK_1, eVar_u, eC_u, aNil_u, acK1_1, acK2_1, aCons_u, tupK_1, eTup_u, ldK_1, lDisp_u, eLK_1, eLMK_1, eL_u, eLM_u, eDiK_1, eDMK_1, eDi_u, eDM_u, opK1_1, opK2_1, opK3_1, eOp_u, negK_1, eNeg_u, slK1_1, slK2_1, slK3_1, slK4_1, ptSK_1, ptN_u, ptS_u, eSlice_u, callK_1, eCall_u, biK_1, blK_1, blK2_1, eBi_u, lBi_u, isiK_1, isiK2_1, eIsi_u, revK_1, revK2_1, lRev_u, andEK_1, andEK_2, orEK_1, orEK_2, notEK_1, orSK_1, ifEK_1, ifEK_2, tofK_1, eAnd_u, eOr_u, eNot_u, eOrS_u, eIf_u, tOf_u, chK1_1, chK2_1, chK3_1, chK3_2, eChain_u, tandK_1, tandK_2, torK_1, torK_2, tnotK_1, tTrue_u, tfAnd_u, tfOr_u, tfNot_u, lcK1_1, lcK2_1, lcK3_1, lcK3_2, lcK4_1, lcK5_1, lcD_n, lcD_c, aLc_u, wipeD_n, wipeD_c, gdName_u, gsK_1, gsNil_u, gdTup_u, gsCons_u, iseqK_1, iseqK2_1, itupK_1, istrK_1, irng1K_1, irng2K_1, seqP_1, seqP_2, iSeq_u, iTupD_u, iStrD_u, iRange1_u, iRange2_u, m1K_1, m1K2_1, m0K_1, s1K_1, eMeth1_u, eMeth0_u, eS1_u, setK_1, asgK_1, asgK2_1, retK_1, expK_1, seqK_1, seqK_2, seqK_3, ifK_1, ifK_2, forK_1, forD_n, forK2_1, forK3_1, forK3_2, forK3_3, fnK_1, fnK_2, gcK_1, sNext_u, sBrk_u, stK_1, stK0_1, stK1_1, stK2_1, sSet_u, sAsg_u, sRet_u, sExp_u, sSeq_u, sIf_u, sFor_u, forD_c, fnD_u, gcFn_u, sSetIx_u, dAdd_i, dAdd_s, dAdd_t, dAdd_l, dSub_i, dCmp_i, dEq_s, dEq_i, dEq_b, dNe_s, dNe_i, dNe_b, dIx_t, dIx_l, dIx_c, dSlice_t, dSlice_l, dSlice_c, dSlice_s, bLen_t, bLen_l, bLen_s, bTup_t, bTup_l, blList_t, blList_l, bInt_i, bInt_t, bInt_f, bMin_i, dIsN_1, dIsN_2, seqL_l, seqL_c, dMod_i, dDiv_i, dMul_r, dMul_l, bLen_c, gc_same, pow12, dicS_d, dicO_1, keyO_s, keyO_i, dgK_1, dgK2_1, diK_1, diK2_f, diK2_t, valD_n, mergeD_n, mergeD_c, putD_n, ienK_1, ppNil_u, ppK_1, ppK2_1, ppK3_1, keysD_n, kdK_1, kdK2_1, ddK_1, ddK2_1, g2K_1, g2K1_1, g2K2_1, g2K3_1, g2K4_1, isDic_d, dpK_1, dpK1_1, dpK2_1, dpK3_1, dbK_1, dbK2_1, bdCopy_1, ddNew_u, dicS_r, dGet_u, dInK_u, valD_c, putD_c, iEnumD_u, ppCons_u, keysD_c, ddDisp_u, eGet2_u, sDput_u, ddCopy_u, List.map_cons, List.map_nil, List.length_cons, List.length_nil, List.cons_append, List.nil_append, List.append_nil, List.getElem?_cons_zero, List.getElem?_cons_succ, List.set_cons_zero, List.set_cons_succ, ofString_inj, ofString_beq, e, Pc.isV, put, Pc.d, atI, ixN, hy]
  | .fn a y b, k + 1, S, h => by
    rw [Fk_s]
    have e := is_value_D' (k := k) (by simp [cd] at h; omega) (.fn a y b) S
    simp only [Pc.d, Pc.isV] at e
    have ih := put_in_D x v b k S (by simp [cd] at h; omega)
    by_cases hy : y = x
    · subst hy
      simp [bodies, varK_1, eVar_u, eC_u, aNil_u, acK1_1, acK2_1, aCons_u, tupK_1, eTup_u, ldK_1, lDisp_u, eLK_1, eLMK_1, eL_u, eLM_u, eDiK_1, eDMK_1, eDi_u, eDM_u, opK1_1, opK2_1, opK3_1, eOp_u, negK_1, eNeg_u, slK1_1, slK2_1, slK3_1, slK4_1, ptSK_1, ptN_u, ptS_u, eSlice_u, callK_1, eCall_u, biK_1, blK_1, blK2_1, eBi_u, lBi_u, isiK_1, isiK2_1, eIsi_u, revK_1, revK2_1, lRev_u, andEK_1, andEK_2, orEK_1, orEK_2, notEK_1, orSK_1, ifEK_1, ifEK_2, tofK_1, eAnd_u, eOr_u, eNot_u, eOrS_u, eIf_u, tOf_u, chK1_1, chK2_1, chK3_1, chK3_2, eChain_u, tandK_1, tandK_2, torK_1, torK_2, tnotK_1, tTrue_u, tfAnd_u, tfOr_u, tfNot_u, lcK1_1, lcK2_1, lcK3_1, lcK3_2, lcK4_1, lcK5_1, lcD_n, lcD_c, aLc_u, wipeD_n, wipeD_c, gdName_u, gsK_1, gsNil_u, gdTup_u, gsCons_u, iseqK_1, iseqK2_1, itupK_1, istrK_1, irng1K_1, irng2K_1, seqP_1, seqP_2, iSeq_u, iTupD_u, iStrD_u, iRange1_u, iRange2_u, m1K_1, m1K2_1, m0K_1, s1K_1, eMeth1_u, eMeth0_u, eS1_u, setK_1, asgK_1, asgK2_1, retK_1, expK_1, seqK_1, seqK_2, seqK_3, ifK_1, ifK_2, forK_1, forD_n, forK2_1, forK3_1, forK3_2, forK3_3, fnK_1, fnK_2, gcK_1, sNext_u, sBrk_u, stK_1, stK0_1, stK1_1, stK2_1, sSet_u, sAsg_u, sRet_u, sExp_u, sSeq_u, sIf_u, sFor_u, forD_c, fnD_u, gcFn_u, sSetIx_u, dAdd_i, dAdd_s, dAdd_t, dAdd_l, dSub_i, dCmp_i, dEq_s, dEq_i, dEq_b, dNe_s, dNe_i, dNe_b, dIx_t, dIx_l, dIx_c, dSlice_t, dSlice_l, dSlice_c, dSlice_s, bLen_t, bLen_l, bLen_s, bTup_t, bTup_l, blList_t, blList_l, bInt_i, bInt_t, bInt_f, bMin_i, dIsN_1, dIsN_2, seqL_l, seqL_c, dMod_i, dDiv_i, dMul_r, dMul_l, bLen_c, gc_same, pow12, dicS_d, dicO_1, keyO_s, keyO_i, dgK_1, dgK2_1, diK_1, diK2_f, diK2_t, valD_n, mergeD_n, mergeD_c, putD_n, ienK_1, ppNil_u, ppK_1, ppK2_1, ppK3_1, keysD_n, kdK_1, kdK2_1, ddK_1, ddK2_1, g2K_1, g2K1_1, g2K2_1, g2K3_1, g2K4_1, isDic_d, dpK_1, dpK1_1, dpK2_1, dpK3_1, dbK_1, dbK2_1, bdCopy_1, ddNew_u, dicS_r, dGet_u, dInK_u, valD_c, putD_c, iEnumD_u, ppCons_u, keysD_c, ddDisp_u, eGet2_u, sDput_u, ddCopy_u, List.map_cons, List.map_nil, List.length_cons, List.length_nil, List.cons_append, List.nil_append, List.append_nil, List.getElem?_cons_zero, List.getElem?_cons_succ, List.set_cons_zero, List.set_cons_succ, ofString_inj, ofString_beq, e, ih, Pc.isV, put, Pc.d, atI, ixN, cut3, sizeLine_eq]
    · simp [bodies, varK_1, eVar_u, eC_u, aNil_u, acK1_1, acK2_1, aCons_u, tupK_1, eTup_u, ldK_1, lDisp_u, eLK_1, eLMK_1, eL_u, eLM_u, eDiK_1, eDMK_1, eDi_u, eDM_u, opK1_1, opK2_1, opK3_1, eOp_u, negK_1, eNeg_u, slK1_1, slK2_1, slK3_1, slK4_1, ptSK_1, ptN_u, ptS_u, eSlice_u, callK_1, eCall_u, biK_1, blK_1, blK2_1, eBi_u, lBi_u, isiK_1, isiK2_1, eIsi_u, revK_1, revK2_1, lRev_u, andEK_1, andEK_2, orEK_1, orEK_2, notEK_1, orSK_1, ifEK_1, ifEK_2, tofK_1, eAnd_u, eOr_u, eNot_u, eOrS_u, eIf_u, tOf_u, chK1_1, chK2_1, chK3_1, chK3_2, eChain_u, tandK_1, tandK_2, torK_1, torK_2, tnotK_1, tTrue_u, tfAnd_u, tfOr_u, tfNot_u, lcK1_1, lcK2_1, lcK3_1, lcK3_2, lcK4_1, lcK5_1, lcD_n, lcD_c, aLc_u, wipeD_n, wipeD_c, gdName_u, gsK_1, gsNil_u, gdTup_u, gsCons_u, iseqK_1, iseqK2_1, itupK_1, istrK_1, irng1K_1, irng2K_1, seqP_1, seqP_2, iSeq_u, iTupD_u, iStrD_u, iRange1_u, iRange2_u, m1K_1, m1K2_1, m0K_1, s1K_1, eMeth1_u, eMeth0_u, eS1_u, setK_1, asgK_1, asgK2_1, retK_1, expK_1, seqK_1, seqK_2, seqK_3, ifK_1, ifK_2, forK_1, forD_n, forK2_1, forK3_1, forK3_2, forK3_3, fnK_1, fnK_2, gcK_1, sNext_u, sBrk_u, stK_1, stK0_1, stK1_1, stK2_1, sSet_u, sAsg_u, sRet_u, sExp_u, sSeq_u, sIf_u, sFor_u, forD_c, fnD_u, gcFn_u, sSetIx_u, dAdd_i, dAdd_s, dAdd_t, dAdd_l, dSub_i, dCmp_i, dEq_s, dEq_i, dEq_b, dNe_s, dNe_i, dNe_b, dIx_t, dIx_l, dIx_c, dSlice_t, dSlice_l, dSlice_c, dSlice_s, bLen_t, bLen_l, bLen_s, bTup_t, bTup_l, blList_t, blList_l, bInt_i, bInt_t, bInt_f, bMin_i, dIsN_1, dIsN_2, seqL_l, seqL_c, dMod_i, dDiv_i, dMul_r, dMul_l, bLen_c, gc_same, pow12, dicS_d, dicO_1, keyO_s, keyO_i, dgK_1, dgK2_1, diK_1, diK2_f, diK2_t, valD_n, mergeD_n, mergeD_c, putD_n, ienK_1, ppNil_u, ppK_1, ppK2_1, ppK3_1, keysD_n, kdK_1, kdK2_1, ddK_1, ddK2_1, g2K_1, g2K1_1, g2K2_1, g2K3_1, g2K4_1, isDic_d, dpK_1, dpK1_1, dpK2_1, dpK3_1, dbK_1, dbK2_1, bdCopy_1, ddNew_u, dicS_r, dGet_u, dInK_u, valD_c, putD_c, iEnumD_u, ppCons_u, keysD_c, ddDisp_u, eGet2_u, sDput_u, ddCopy_u, List.map_cons, List.map_nil, List.length_cons, List.length_nil, List.cons_append, List.nil_append, List.append_nil, List.getElem?_cons_zero, List.getElem?_cons_succ, List.set_cons_zero, List.set_cons_succ, ofString_inj, ofString_beq, e, ih, Pc.isV, put, Pc.d, atI, ixN, hy, cut3, sizeLine_eq]
  | .take a y b, k + 1, S, h => by
    rw [Fk_s]
    have e := is_value_D' (k := k) (by simp [cd] at h; omega) (.take a y b) S
    simp only [Pc.d, Pc.isV] at e
    have ih := put_in_D x v b k S (by simp [cd] at h; omega)
    by_cases hy : y = x
    · subst hy
      simp [bodies, varK_1, eVar_u, eC_u, aNil_u, acK1_1, acK2_1, aCons_u, tupK_1, eTup_u, ldK_1, lDisp_u, eLK_1, eLMK_1, eL_u, eLM_u, eDiK_1, eDMK_1, eDi_u, eDM_u, opK1_1, opK2_1, opK3_1, eOp_u, negK_1, eNeg_u, slK1_1, slK2_1, slK3_1, slK4_1, ptSK_1, ptN_u, ptS_u, eSlice_u, callK_1, eCall_u, biK_1, blK_1, blK2_1, eBi_u, lBi_u, isiK_1, isiK2_1, eIsi_u, revK_1, revK2_1, lRev_u, andEK_1, andEK_2, orEK_1, orEK_2, notEK_1, orSK_1, ifEK_1, ifEK_2, tofK_1, eAnd_u, eOr_u, eNot_u, eOrS_u, eIf_u, tOf_u, chK1_1, chK2_1, chK3_1, chK3_2, eChain_u, tandK_1, tandK_2, torK_1, torK_2, tnotK_1, tTrue_u, tfAnd_u, tfOr_u, tfNot_u, lcK1_1, lcK2_1, lcK3_1, lcK3_2, lcK4_1, lcK5_1, lcD_n, lcD_c, aLc_u, wipeD_n, wipeD_c, gdName_u, gsK_1, gsNil_u, gdTup_u, gsCons_u, iseqK_1, iseqK2_1, itupK_1, istrK_1, irng1K_1, irng2K_1, seqP_1, seqP_2, iSeq_u, iTupD_u, iStrD_u, iRange1_u, iRange2_u, m1K_1, m1K2_1, m0K_1, s1K_1, eMeth1_u, eMeth0_u, eS1_u, setK_1, asgK_1, asgK2_1, retK_1, expK_1, seqK_1, seqK_2, seqK_3, ifK_1, ifK_2, forK_1, forD_n, forK2_1, forK3_1, forK3_2, forK3_3, fnK_1, fnK_2, gcK_1, sNext_u, sBrk_u, stK_1, stK0_1, stK1_1, stK2_1, sSet_u, sAsg_u, sRet_u, sExp_u, sSeq_u, sIf_u, sFor_u, forD_c, fnD_u, gcFn_u, sSetIx_u, dAdd_i, dAdd_s, dAdd_t, dAdd_l, dSub_i, dCmp_i, dEq_s, dEq_i, dEq_b, dNe_s, dNe_i, dNe_b, dIx_t, dIx_l, dIx_c, dSlice_t, dSlice_l, dSlice_c, dSlice_s, bLen_t, bLen_l, bLen_s, bTup_t, bTup_l, blList_t, blList_l, bInt_i, bInt_t, bInt_f, bMin_i, dIsN_1, dIsN_2, seqL_l, seqL_c, dMod_i, dDiv_i, dMul_r, dMul_l, bLen_c, gc_same, pow12, dicS_d, dicO_1, keyO_s, keyO_i, dgK_1, dgK2_1, diK_1, diK2_f, diK2_t, valD_n, mergeD_n, mergeD_c, putD_n, ienK_1, ppNil_u, ppK_1, ppK2_1, ppK3_1, keysD_n, kdK_1, kdK2_1, ddK_1, ddK2_1, g2K_1, g2K1_1, g2K2_1, g2K3_1, g2K4_1, isDic_d, dpK_1, dpK1_1, dpK2_1, dpK3_1, dbK_1, dbK2_1, bdCopy_1, ddNew_u, dicS_r, dGet_u, dInK_u, valD_c, putD_c, iEnumD_u, ppCons_u, keysD_c, ddDisp_u, eGet2_u, sDput_u, ddCopy_u, List.map_cons, List.map_nil, List.length_cons, List.length_nil, List.cons_append, List.nil_append, List.append_nil, List.getElem?_cons_zero, List.getElem?_cons_succ, List.set_cons_zero, List.set_cons_succ, ofString_inj, ofString_beq, e, ih, Pc.isV, put, Pc.d, atI, ixN, cut3, sizeLine_eq]
    · simp [bodies, varK_1, eVar_u, eC_u, aNil_u, acK1_1, acK2_1, aCons_u, tupK_1, eTup_u, ldK_1, lDisp_u, eLK_1, eLMK_1, eL_u, eLM_u, eDiK_1, eDMK_1, eDi_u, eDM_u, opK1_1, opK2_1, opK3_1, eOp_u, negK_1, eNeg_u, slK1_1, slK2_1, slK3_1, slK4_1, ptSK_1, ptN_u, ptS_u, eSlice_u, callK_1, eCall_u, biK_1, blK_1, blK2_1, eBi_u, lBi_u, isiK_1, isiK2_1, eIsi_u, revK_1, revK2_1, lRev_u, andEK_1, andEK_2, orEK_1, orEK_2, notEK_1, orSK_1, ifEK_1, ifEK_2, tofK_1, eAnd_u, eOr_u, eNot_u, eOrS_u, eIf_u, tOf_u, chK1_1, chK2_1, chK3_1, chK3_2, eChain_u, tandK_1, tandK_2, torK_1, torK_2, tnotK_1, tTrue_u, tfAnd_u, tfOr_u, tfNot_u, lcK1_1, lcK2_1, lcK3_1, lcK3_2, lcK4_1, lcK5_1, lcD_n, lcD_c, aLc_u, wipeD_n, wipeD_c, gdName_u, gsK_1, gsNil_u, gdTup_u, gsCons_u, iseqK_1, iseqK2_1, itupK_1, istrK_1, irng1K_1, irng2K_1, seqP_1, seqP_2, iSeq_u, iTupD_u, iStrD_u, iRange1_u, iRange2_u, m1K_1, m1K2_1, m0K_1, s1K_1, eMeth1_u, eMeth0_u, eS1_u, setK_1, asgK_1, asgK2_1, retK_1, expK_1, seqK_1, seqK_2, seqK_3, ifK_1, ifK_2, forK_1, forD_n, forK2_1, forK3_1, forK3_2, forK3_3, fnK_1, fnK_2, gcK_1, sNext_u, sBrk_u, stK_1, stK0_1, stK1_1, stK2_1, sSet_u, sAsg_u, sRet_u, sExp_u, sSeq_u, sIf_u, sFor_u, forD_c, fnD_u, gcFn_u, sSetIx_u, dAdd_i, dAdd_s, dAdd_t, dAdd_l, dSub_i, dCmp_i, dEq_s, dEq_i, dEq_b, dNe_s, dNe_i, dNe_b, dIx_t, dIx_l, dIx_c, dSlice_t, dSlice_l, dSlice_c, dSlice_s, bLen_t, bLen_l, bLen_s, bTup_t, bTup_l, blList_t, blList_l, bInt_i, bInt_t, bInt_f, bMin_i, dIsN_1, dIsN_2, seqL_l, seqL_c, dMod_i, dDiv_i, dMul_r, dMul_l, bLen_c, gc_same, pow12, dicS_d, dicO_1, keyO_s, keyO_i, dgK_1, dgK2_1, diK_1, diK2_f, diK2_t, valD_n, mergeD_n, mergeD_c, putD_n, ienK_1, ppNil_u, ppK_1, ppK2_1, ppK3_1, keysD_n, kdK_1, kdK2_1, ddK_1, ddK2_1, g2K_1, g2K1_1, g2K2_1, g2K3_1, g2K4_1, isDic_d, dpK_1, dpK1_1, dpK2_1, dpK3_1, dbK_1, dbK2_1, bdCopy_1, ddNew_u, dicS_r, dGet_u, dInK_u, valD_c, putD_c, iEnumD_u, ppCons_u, keysD_c, ddDisp_u, eGet2_u, sDput_u, ddCopy_u, List.map_cons, List.map_nil, List.length_cons, List.length_nil, List.cons_append, List.nil_append, List.append_nil, List.getElem?_cons_zero, List.getElem?_cons_succ, List.set_cons_zero, List.set_cons_succ, ofString_inj, ofString_beq, e, ih, Pc.isV, put, Pc.d, atI, ixN, hy, cut3, sizeLine_eq]
  | .rnd b, k + 1, S, h => by
    rw [Fk_s]
    have e := is_value_D' (k := k) (by simp [cd] at h; omega) (.rnd b) S
    simp only [Pc.d, Pc.isV] at e
    have ih := put_in_D x v b k S (by simp [cd] at h; omega)
    simp [bodies, varK_1, eVar_u, eC_u, aNil_u, acK1_1, acK2_1, aCons_u, tupK_1, eTup_u, ldK_1, lDisp_u, eLK_1, eLMK_1, eL_u, eLM_u, eDiK_1, eDMK_1, eDi_u, eDM_u, opK1_1, opK2_1, opK3_1, eOp_u, negK_1, eNeg_u, slK1_1, slK2_1, slK3_1, slK4_1, ptSK_1, ptN_u, ptS_u, eSlice_u, callK_1, eCall_u, biK_1, blK_1, blK2_1, eBi_u, lBi_u, isiK_1, isiK2_1, eIsi_u, revK_1, revK2_1, lRev_u, andEK_1, andEK_2, orEK_1, orEK_2, notEK_1, orSK_1, ifEK_1, ifEK_2, tofK_1, eAnd_u, eOr_u, eNot_u, eOrS_u, eIf_u, tOf_u, chK1_1, chK2_1, chK3_1, chK3_2, eChain_u, tandK_1, tandK_2, torK_1, torK_2, tnotK_1, tTrue_u, tfAnd_u, tfOr_u, tfNot_u, lcK1_1, lcK2_1, lcK3_1, lcK3_2, lcK4_1, lcK5_1, lcD_n, lcD_c, aLc_u, wipeD_n, wipeD_c, gdName_u, gsK_1, gsNil_u, gdTup_u, gsCons_u, iseqK_1, iseqK2_1, itupK_1, istrK_1, irng1K_1, irng2K_1, seqP_1, seqP_2, iSeq_u, iTupD_u, iStrD_u, iRange1_u, iRange2_u, m1K_1, m1K2_1, m0K_1, s1K_1, eMeth1_u, eMeth0_u, eS1_u, setK_1, asgK_1, asgK2_1, retK_1, expK_1, seqK_1, seqK_2, seqK_3, ifK_1, ifK_2, forK_1, forD_n, forK2_1, forK3_1, forK3_2, forK3_3, fnK_1, fnK_2, gcK_1, sNext_u, sBrk_u, stK_1, stK0_1, stK1_1, stK2_1, sSet_u, sAsg_u, sRet_u, sExp_u, sSeq_u, sIf_u, sFor_u, forD_c, fnD_u, gcFn_u, sSetIx_u, dAdd_i, dAdd_s, dAdd_t, dAdd_l, dSub_i, dCmp_i, dEq_s, dEq_i, dEq_b, dNe_s, dNe_i, dNe_b, dIx_t, dIx_l, dIx_c, dSlice_t, dSlice_l, dSlice_c, dSlice_s, bLen_t, bLen_l, bLen_s, bTup_t, bTup_l, blList_t, blList_l, bInt_i, bInt_t, bInt_f, bMin_i, dIsN_1, dIsN_2, seqL_l, seqL_c, dMod_i, dDiv_i, dMul_r, dMul_l, bLen_c, gc_same, pow12, dicS_d, dicO_1, keyO_s, keyO_i, dgK_1, dgK2_1, diK_1, diK2_f, diK2_t, valD_n, mergeD_n, mergeD_c, putD_n, ienK_1, ppNil_u, ppK_1, ppK2_1, ppK3_1, keysD_n, kdK_1, kdK2_1, ddK_1, ddK2_1, g2K_1, g2K1_1, g2K2_1, g2K3_1, g2K4_1, isDic_d, dpK_1, dpK1_1, dpK2_1, dpK3_1, dbK_1, dbK2_1, bdCopy_1, ddNew_u, dicS_r, dGet_u, dInK_u, valD_c, putD_c, iEnumD_u, ppCons_u, keysD_c, ddDisp_u, eGet2_u, sDput_u, ddCopy_u, List.map_cons, List.map_nil, List.length_cons, List.length_nil, List.cons_append, List.nil_append, List.append_nil, List.getElem?_cons_zero, List.getElem?_cons_succ, List.set_cons_zero, List.set_cons_succ, ofString_inj, ofString_beq, e, ih, Pc.isV, put, Pc.d, atI, ixN]
  | .call a f g, k + 1, S, h => by
    rw [Fk_s]
    have e := is_value_D' (k := k) (by simp [cd] at h; omega) (.call a f g) S
    simp only [Pc.d, Pc.isV] at e
    have i1 := put_in_D x v f k S (by simp [cd] at h; omega)
    have i2 := put_in_D x v g k S (by simp [cd] at h; omega)
    simp [bodies, varK_1, eVar_u, eC_u, aNil_u, acK1_1, acK2_1, aCons_u, tupK_1, eTup_u, ldK_1, lDisp_u, eLK_1, eLMK_1, eL_u, eLM_u, eDiK_1, eDMK_1, eDi_u, eDM_u, opK1_1, opK2_1, opK3_1, eOp_u, negK_1, eNeg_u, slK1_1, slK2_1, slK3_1, slK4_1, ptSK_1, ptN_u, ptS_u, eSlice_u, callK_1, eCall_u, biK_1, blK_1, blK2_1, eBi_u, lBi_u, isiK_1, isiK2_1, eIsi_u, revK_1, revK2_1, lRev_u, andEK_1, andEK_2, orEK_1, orEK_2, notEK_1, orSK_1, ifEK_1, ifEK_2, tofK_1, eAnd_u, eOr_u, eNot_u, eOrS_u, eIf_u, tOf_u, chK1_1, chK2_1, chK3_1, chK3_2, eChain_u, tandK_1, tandK_2, torK_1, torK_2, tnotK_1, tTrue_u, tfAnd_u, tfOr_u, tfNot_u, lcK1_1, lcK2_1, lcK3_1, lcK3_2, lcK4_1, lcK5_1, lcD_n, lcD_c, aLc_u, wipeD_n, wipeD_c, gdName_u, gsK_1, gsNil_u, gdTup_u, gsCons_u, iseqK_1, iseqK2_1, itupK_1, istrK_1, irng1K_1, irng2K_1, seqP_1, seqP_2, iSeq_u, iTupD_u, iStrD_u, iRange1_u, iRange2_u, m1K_1, m1K2_1, m0K_1, s1K_1, eMeth1_u, eMeth0_u, eS1_u, setK_1, asgK_1, asgK2_1, retK_1, expK_1, seqK_1, seqK_2, seqK_3, ifK_1, ifK_2, forK_1, forD_n, forK2_1, forK3_1, forK3_2, forK3_3, fnK_1, fnK_2, gcK_1, sNext_u, sBrk_u, stK_1, stK0_1, stK1_1, stK2_1, sSet_u, sAsg_u, sRet_u, sExp_u, sSeq_u, sIf_u, sFor_u, forD_c, fnD_u, gcFn_u, sSetIx_u, dAdd_i, dAdd_s, dAdd_t, dAdd_l, dSub_i, dCmp_i, dEq_s, dEq_i, dEq_b, dNe_s, dNe_i, dNe_b, dIx_t, dIx_l, dIx_c, dSlice_t, dSlice_l, dSlice_c, dSlice_s, bLen_t, bLen_l, bLen_s, bTup_t, bTup_l, blList_t, blList_l, bInt_i, bInt_t, bInt_f, bMin_i, dIsN_1, dIsN_2, seqL_l, seqL_c, dMod_i, dDiv_i, dMul_r, dMul_l, bLen_c, gc_same, pow12, dicS_d, dicO_1, keyO_s, keyO_i, dgK_1, dgK2_1, diK_1, diK2_f, diK2_t, valD_n, mergeD_n, mergeD_c, putD_n, ienK_1, ppNil_u, ppK_1, ppK2_1, ppK3_1, keysD_n, kdK_1, kdK2_1, ddK_1, ddK2_1, g2K_1, g2K1_1, g2K2_1, g2K3_1, g2K4_1, isDic_d, dpK_1, dpK1_1, dpK2_1, dpK3_1, dbK_1, dbK2_1, bdCopy_1, ddNew_u, dicS_r, dGet_u, dInK_u, valD_c, putD_c, iEnumD_u, ppCons_u, keysD_c, ddDisp_u, eGet2_u, sDput_u, ddCopy_u, List.map_cons, List.map_nil, List.length_cons, List.length_nil, List.cons_append, List.nil_append, List.append_nil, List.getElem?_cons_zero, List.getElem?_cons_succ, List.set_cons_zero, List.set_cons_succ, ofString_inj, ofString_beq, e, i1, i2, Pc.isV, put, Pc.d, atI, ixN, cut2, drop2, sizeLine_eq]
  | .plus a f g, k + 1, S, h => by
    rw [Fk_s]
    have e := is_value_D' (k := k) (by simp [cd] at h; omega) (.plus a f g) S
    simp only [Pc.d, Pc.isV] at e
    have i1 := put_in_D x v f k S (by simp [cd] at h; omega)
    have i2 := put_in_D x v g k S (by simp [cd] at h; omega)
    simp [bodies, varK_1, eVar_u, eC_u, aNil_u, acK1_1, acK2_1, aCons_u, tupK_1, eTup_u, ldK_1, lDisp_u, eLK_1, eLMK_1, eL_u, eLM_u, eDiK_1, eDMK_1, eDi_u, eDM_u, opK1_1, opK2_1, opK3_1, eOp_u, negK_1, eNeg_u, slK1_1, slK2_1, slK3_1, slK4_1, ptSK_1, ptN_u, ptS_u, eSlice_u, callK_1, eCall_u, biK_1, blK_1, blK2_1, eBi_u, lBi_u, isiK_1, isiK2_1, eIsi_u, revK_1, revK2_1, lRev_u, andEK_1, andEK_2, orEK_1, orEK_2, notEK_1, orSK_1, ifEK_1, ifEK_2, tofK_1, eAnd_u, eOr_u, eNot_u, eOrS_u, eIf_u, tOf_u, chK1_1, chK2_1, chK3_1, chK3_2, eChain_u, tandK_1, tandK_2, torK_1, torK_2, tnotK_1, tTrue_u, tfAnd_u, tfOr_u, tfNot_u, lcK1_1, lcK2_1, lcK3_1, lcK3_2, lcK4_1, lcK5_1, lcD_n, lcD_c, aLc_u, wipeD_n, wipeD_c, gdName_u, gsK_1, gsNil_u, gdTup_u, gsCons_u, iseqK_1, iseqK2_1, itupK_1, istrK_1, irng1K_1, irng2K_1, seqP_1, seqP_2, iSeq_u, iTupD_u, iStrD_u, iRange1_u, iRange2_u, m1K_1, m1K2_1, m0K_1, s1K_1, eMeth1_u, eMeth0_u, eS1_u, setK_1, asgK_1, asgK2_1, retK_1, expK_1, seqK_1, seqK_2, seqK_3, ifK_1, ifK_2, forK_1, forD_n, forK2_1, forK3_1, forK3_2, forK3_3, fnK_1, fnK_2, gcK_1, sNext_u, sBrk_u, stK_1, stK0_1, stK1_1, stK2_1, sSet_u, sAsg_u, sRet_u, sExp_u, sSeq_u, sIf_u, sFor_u, forD_c, fnD_u, gcFn_u, sSetIx_u, dAdd_i, dAdd_s, dAdd_t, dAdd_l, dSub_i, dCmp_i, dEq_s, dEq_i, dEq_b, dNe_s, dNe_i, dNe_b, dIx_t, dIx_l, dIx_c, dSlice_t, dSlice_l, dSlice_c, dSlice_s, bLen_t, bLen_l, bLen_s, bTup_t, bTup_l, blList_t, blList_l, bInt_i, bInt_t, bInt_f, bMin_i, dIsN_1, dIsN_2, seqL_l, seqL_c, dMod_i, dDiv_i, dMul_r, dMul_l, bLen_c, gc_same, pow12, dicS_d, dicO_1, keyO_s, keyO_i, dgK_1, dgK2_1, diK_1, diK2_f, diK2_t, valD_n, mergeD_n, mergeD_c, putD_n, ienK_1, ppNil_u, ppK_1, ppK2_1, ppK3_1, keysD_n, kdK_1, kdK2_1, ddK_1, ddK2_1, g2K_1, g2K1_1, g2K2_1, g2K3_1, g2K4_1, isDic_d, dpK_1, dpK1_1, dpK2_1, dpK3_1, dbK_1, dbK2_1, bdCopy_1, ddNew_u, dicS_r, dGet_u, dInK_u, valD_c, putD_c, iEnumD_u, ppCons_u, keysD_c, ddDisp_u, eGet2_u, sDput_u, ddCopy_u, List.map_cons, List.map_nil, List.length_cons, List.length_nil, List.cons_append, List.nil_append, List.append_nil, List.getElem?_cons_zero, List.getElem?_cons_succ, List.set_cons_zero, List.set_cons_succ, ofString_inj, ofString_beq, e, i1, i2, Pc.isV, put, Pc.d, atI, ixN, cut2, drop2, sizeLine_eq]
  | .pick a c f g, k + 1, S, h => by
    rw [Fk_s]
    have e := is_value_D' (k := k) (by simp [cd] at h; omega) (.pick a c f g) S
    simp only [Pc.d, Pc.isV] at e
    have i0 := put_in_D x v c k S (by simp [cd] at h; omega)
    have i1 := put_in_D x v f k S (by simp [cd] at h; omega)
    have i2 := put_in_D x v g k S (by simp [cd] at h; omega)
    simp [bodies, varK_1, eVar_u, eC_u, aNil_u, acK1_1, acK2_1, aCons_u, tupK_1, eTup_u, ldK_1, lDisp_u, eLK_1, eLMK_1, eL_u, eLM_u, eDiK_1, eDMK_1, eDi_u, eDM_u, opK1_1, opK2_1, opK3_1, eOp_u, negK_1, eNeg_u, slK1_1, slK2_1, slK3_1, slK4_1, ptSK_1, ptN_u, ptS_u, eSlice_u, callK_1, eCall_u, biK_1, blK_1, blK2_1, eBi_u, lBi_u, isiK_1, isiK2_1, eIsi_u, revK_1, revK2_1, lRev_u, andEK_1, andEK_2, orEK_1, orEK_2, notEK_1, orSK_1, ifEK_1, ifEK_2, tofK_1, eAnd_u, eOr_u, eNot_u, eOrS_u, eIf_u, tOf_u, chK1_1, chK2_1, chK3_1, chK3_2, eChain_u, tandK_1, tandK_2, torK_1, torK_2, tnotK_1, tTrue_u, tfAnd_u, tfOr_u, tfNot_u, lcK1_1, lcK2_1, lcK3_1, lcK3_2, lcK4_1, lcK5_1, lcD_n, lcD_c, aLc_u, wipeD_n, wipeD_c, gdName_u, gsK_1, gsNil_u, gdTup_u, gsCons_u, iseqK_1, iseqK2_1, itupK_1, istrK_1, irng1K_1, irng2K_1, seqP_1, seqP_2, iSeq_u, iTupD_u, iStrD_u, iRange1_u, iRange2_u, m1K_1, m1K2_1, m0K_1, s1K_1, eMeth1_u, eMeth0_u, eS1_u, setK_1, asgK_1, asgK2_1, retK_1, expK_1, seqK_1, seqK_2, seqK_3, ifK_1, ifK_2, forK_1, forD_n, forK2_1, forK3_1, forK3_2, forK3_3, fnK_1, fnK_2, gcK_1, sNext_u, sBrk_u, stK_1, stK0_1, stK1_1, stK2_1, sSet_u, sAsg_u, sRet_u, sExp_u, sSeq_u, sIf_u, sFor_u, forD_c, fnD_u, gcFn_u, sSetIx_u, dAdd_i, dAdd_s, dAdd_t, dAdd_l, dSub_i, dCmp_i, dEq_s, dEq_i, dEq_b, dNe_s, dNe_i, dNe_b, dIx_t, dIx_l, dIx_c, dSlice_t, dSlice_l, dSlice_c, dSlice_s, bLen_t, bLen_l, bLen_s, bTup_t, bTup_l, blList_t, blList_l, bInt_i, bInt_t, bInt_f, bMin_i, dIsN_1, dIsN_2, seqL_l, seqL_c, dMod_i, dDiv_i, dMul_r, dMul_l, bLen_c, gc_same, pow12, dicS_d, dicO_1, keyO_s, keyO_i, dgK_1, dgK2_1, diK_1, diK2_f, diK2_t, valD_n, mergeD_n, mergeD_c, putD_n, ienK_1, ppNil_u, ppK_1, ppK2_1, ppK3_1, keysD_n, kdK_1, kdK2_1, ddK_1, ddK2_1, g2K_1, g2K1_1, g2K2_1, g2K3_1, g2K4_1, isDic_d, dpK_1, dpK1_1, dpK2_1, dpK3_1, dbK_1, dbK2_1, bdCopy_1, ddNew_u, dicS_r, dGet_u, dInK_u, valD_c, putD_c, iEnumD_u, ppCons_u, keysD_c, ddDisp_u, eGet2_u, sDput_u, ddCopy_u, List.map_cons, List.map_nil, List.length_cons, List.length_nil, List.cons_append, List.nil_append, List.append_nil, List.getElem?_cons_zero, List.getElem?_cons_succ, List.set_cons_zero, List.set_cons_succ, ofString_inj, ofString_beq, e, i0, i1, i2, Pc.isV, put, Pc.d, atI, ixN, cut2, drop2, sizeLine_eq]
/-! ## stepped -/
theorem sWhile_u {c : T} {b : B} {δ : Sl} {S : List O} : sWhile c b δ S = whD c b big δ S := id rfl
def innD : Option (Fr × Pc) → D
  | none => .non
  | some (f, q) => .tup [f.d, q.d]
theorem inner_of_D {k : Nat} (hk : 2 ≤ k) (p : Pc) (S : List O) : Fk k .inner_of [p.d] S = some (innD (inn p), S) := by
  obtain ⟨k, rfl⟩ : ∃ j, k = j + 1 := ⟨k - 1, by omega⟩
  rw [Fk_s]
  have e := fun q => is_value_D' (k := k) (by omega) q S
  cases p with
  | rnd b => cases h : b.isV <;> simp [bodies, varK_1, eVar_u, eC_u, aNil_u, acK1_1, acK2_1, aCons_u, tupK_1, eTup_u, ldK_1, lDisp_u, eLK_1, eLMK_1, eL_u, eLM_u, eDiK_1, eDMK_1, eDi_u, eDM_u, opK1_1, opK2_1, opK3_1, eOp_u, negK_1, eNeg_u, slK1_1, slK2_1, slK3_1, slK4_1, ptSK_1, ptN_u, ptS_u, eSlice_u, callK_1, eCall_u, biK_1, blK_1, blK2_1, eBi_u, lBi_u, isiK_1, isiK2_1, eIsi_u, revK_1, revK2_1, lRev_u, andEK_1, andEK_2, orEK_1, orEK_2, notEK_1, orSK_1, ifEK_1, ifEK_2, tofK_1, eAnd_u, eOr_u, eNot_u, eOrS_u, eIf_u, tOf_u, chK1_1, chK2_1, chK3_1, chK3_2, eChain_u, tandK_1, tandK_2, torK_1, torK_2, tnotK_1, tTrue_u, tfAnd_u, tfOr_u, tfNot_u, lcK1_1, lcK2_1, lcK3_1, lcK3_2, lcK4_1, lcK5_1, lcD_n, lcD_c, aLc_u, wipeD_n, wipeD_c, gdName_u, gsK_1, gsNil_u, gdTup_u, gsCons_u, iseqK_1, iseqK2_1, itupK_1, istrK_1, irng1K_1, irng2K_1, seqP_1, seqP_2, iSeq_u, iTupD_u, iStrD_u, iRange1_u, iRange2_u, m1K_1, m1K2_1, m0K_1, s1K_1, eMeth1_u, eMeth0_u, eS1_u, setK_1, asgK_1, asgK2_1, retK_1, expK_1, seqK_1, seqK_2, seqK_3, ifK_1, ifK_2, forK_1, forD_n, forK2_1, forK3_1, forK3_2, forK3_3, fnK_1, fnK_2, gcK_1, sNext_u, sBrk_u, stK_1, stK0_1, stK1_1, stK2_1, sSet_u, sAsg_u, sRet_u, sExp_u, sSeq_u, sIf_u, sFor_u, forD_c, fnD_u, gcFn_u, sSetIx_u, dAdd_i, dAdd_s, dAdd_t, dAdd_l, dSub_i, dCmp_i, dEq_s, dEq_i, dEq_b, dNe_s, dNe_i, dNe_b, dIx_t, dIx_l, dIx_c, dSlice_t, dSlice_l, dSlice_c, dSlice_s, bLen_t, bLen_l, bLen_s, bTup_t, bTup_l, blList_t, blList_l, bInt_i, bInt_t, bInt_f, bMin_i, dIsN_1, dIsN_2, seqL_l, seqL_c, dMod_i, dDiv_i, dMul_r, dMul_l, bLen_c, gc_same, pow12, dicS_d, dicO_1, keyO_s, keyO_i, dgK_1, dgK2_1, diK_1, diK2_f, diK2_t, valD_n, mergeD_n, mergeD_c, putD_n, ienK_1, ppNil_u, ppK_1, ppK2_1, ppK3_1, keysD_n, kdK_1, kdK2_1, ddK_1, ddK2_1, g2K_1, g2K1_1, g2K2_1, g2K3_1, g2K4_1, isDic_d, dpK_1, dpK1_1, dpK2_1, dpK3_1, dbK_1, dbK2_1, bdCopy_1, ddNew_u, dicS_r, dGet_u, dInK_u, valD_c, putD_c, iEnumD_u, ppCons_u, keysD_c, ddDisp_u, eGet2_u, sDput_u, ddCopy_u, List.map_cons, List.map_nil, List.length_cons, List.length_nil, List.cons_append, List.nil_append, List.append_nil, List.getElem?_cons_zero, List.getElem?_cons_succ, List.set_cons_zero, List.set_cons_succ, ofString_inj, ofString_beq, e, h, inn, innD, Pc.d, Fr.d, atI, ixN]
  | pick a c f g => cases h : c.isV <;> simp [bodies, varK_1, eVar_u, eC_u, aNil_u, acK1_1, acK2_1, aCons_u, tupK_1, eTup_u, ldK_1, lDisp_u, eLK_1, eLMK_1, eL_u, eLM_u, eDiK_1, eDMK_1, eDi_u, eDM_u, opK1_1, opK2_1, opK3_1, eOp_u, negK_1, eNeg_u, slK1_1, slK2_1, slK3_1, slK4_1, ptSK_1, ptN_u, ptS_u, eSlice_u, callK_1, eCall_u, biK_1, blK_1, blK2_1, eBi_u, lBi_u, isiK_1, isiK2_1, eIsi_u, revK_1, revK2_1, lRev_u, andEK_1, andEK_2, orEK_1, orEK_2, notEK_1, orSK_1, ifEK_1, ifEK_2, tofK_1, eAnd_u, eOr_u, eNot_u, eOrS_u, eIf_u, tOf_u, chK1_1, chK2_1, chK3_1, chK3_2, eChain_u, tandK_1, tandK_2, torK_1, torK_2, tnotK_1, tTrue_u, tfAnd_u, tfOr_u, tfNot_u, lcK1_1, lcK2_1, lcK3_1, lcK3_2, lcK4_1, lcK5_1, lcD_n, lcD_c, aLc_u, wipeD_n, wipeD_c, gdName_u, gsK_1, gsNil_u, gdTup_u, gsCons_u, iseqK_1, iseqK2_1, itupK_1, istrK_1, irng1K_1, irng2K_1, seqP_1, seqP_2, iSeq_u, iTupD_u, iStrD_u, iRange1_u, iRange2_u, m1K_1, m1K2_1, m0K_1, s1K_1, eMeth1_u, eMeth0_u, eS1_u, setK_1, asgK_1, asgK2_1, retK_1, expK_1, seqK_1, seqK_2, seqK_3, ifK_1, ifK_2, forK_1, forD_n, forK2_1, forK3_1, forK3_2, forK3_3, fnK_1, fnK_2, gcK_1, sNext_u, sBrk_u, stK_1, stK0_1, stK1_1, stK2_1, sSet_u, sAsg_u, sRet_u, sExp_u, sSeq_u, sIf_u, sFor_u, forD_c, fnD_u, gcFn_u, sSetIx_u, dAdd_i, dAdd_s, dAdd_t, dAdd_l, dSub_i, dCmp_i, dEq_s, dEq_i, dEq_b, dNe_s, dNe_i, dNe_b, dIx_t, dIx_l, dIx_c, dSlice_t, dSlice_l, dSlice_c, dSlice_s, bLen_t, bLen_l, bLen_s, bTup_t, bTup_l, blList_t, blList_l, bInt_i, bInt_t, bInt_f, bMin_i, dIsN_1, dIsN_2, seqL_l, seqL_c, dMod_i, dDiv_i, dMul_r, dMul_l, bLen_c, gc_same, pow12, dicS_d, dicO_1, keyO_s, keyO_i, dgK_1, dgK2_1, diK_1, diK2_f, diK2_t, valD_n, mergeD_n, mergeD_c, putD_n, ienK_1, ppNil_u, ppK_1, ppK2_1, ppK3_1, keysD_n, kdK_1, kdK2_1, ddK_1, ddK2_1, g2K_1, g2K1_1, g2K2_1, g2K3_1, g2K4_1, isDic_d, dpK_1, dpK1_1, dpK2_1, dpK3_1, dbK_1, dbK2_1, bdCopy_1, ddNew_u, dicS_r, dGet_u, dInK_u, valD_c, putD_c, iEnumD_u, ppCons_u, keysD_c, ddDisp_u, eGet2_u, sDput_u, ddCopy_u, List.map_cons, List.map_nil, List.length_cons, List.length_nil, List.cons_append, List.nil_append, List.append_nil, List.getElem?_cons_zero, List.getElem?_cons_succ, List.set_cons_zero, List.set_cons_succ, ofString_inj, ofString_beq, e, h, inn, innD, Pc.d, Fr.d, atI, ixN]
  | call a f g => cases h : f.isV <;> cases h' : g.isV <;> simp [bodies, varK_1, eVar_u, eC_u, aNil_u, acK1_1, acK2_1, aCons_u, tupK_1, eTup_u, ldK_1, lDisp_u, eLK_1, eLMK_1, eL_u, eLM_u, eDiK_1, eDMK_1, eDi_u, eDM_u, opK1_1, opK2_1, opK3_1, eOp_u, negK_1, eNeg_u, slK1_1, slK2_1, slK3_1, slK4_1, ptSK_1, ptN_u, ptS_u, eSlice_u, callK_1, eCall_u, biK_1, blK_1, blK2_1, eBi_u, lBi_u, isiK_1, isiK2_1, eIsi_u, revK_1, revK2_1, lRev_u, andEK_1, andEK_2, orEK_1, orEK_2, notEK_1, orSK_1, ifEK_1, ifEK_2, tofK_1, eAnd_u, eOr_u, eNot_u, eOrS_u, eIf_u, tOf_u, chK1_1, chK2_1, chK3_1, chK3_2, eChain_u, tandK_1, tandK_2, torK_1, torK_2, tnotK_1, tTrue_u, tfAnd_u, tfOr_u, tfNot_u, lcK1_1, lcK2_1, lcK3_1, lcK3_2, lcK4_1, lcK5_1, lcD_n, lcD_c, aLc_u, wipeD_n, wipeD_c, gdName_u, gsK_1, gsNil_u, gdTup_u, gsCons_u, iseqK_1, iseqK2_1, itupK_1, istrK_1, irng1K_1, irng2K_1, seqP_1, seqP_2, iSeq_u, iTupD_u, iStrD_u, iRange1_u, iRange2_u, m1K_1, m1K2_1, m0K_1, s1K_1, eMeth1_u, eMeth0_u, eS1_u, setK_1, asgK_1, asgK2_1, retK_1, expK_1, seqK_1, seqK_2, seqK_3, ifK_1, ifK_2, forK_1, forD_n, forK2_1, forK3_1, forK3_2, forK3_3, fnK_1, fnK_2, gcK_1, sNext_u, sBrk_u, stK_1, stK0_1, stK1_1, stK2_1, sSet_u, sAsg_u, sRet_u, sExp_u, sSeq_u, sIf_u, sFor_u, forD_c, fnD_u, gcFn_u, sSetIx_u, dAdd_i, dAdd_s, dAdd_t, dAdd_l, dSub_i, dCmp_i, dEq_s, dEq_i, dEq_b, dNe_s, dNe_i, dNe_b, dIx_t, dIx_l, dIx_c, dSlice_t, dSlice_l, dSlice_c, dSlice_s, bLen_t, bLen_l, bLen_s, bTup_t, bTup_l, blList_t, blList_l, bInt_i, bInt_t, bInt_f, bMin_i, dIsN_1, dIsN_2, seqL_l, seqL_c, dMod_i, dDiv_i, dMul_r, dMul_l, bLen_c, gc_same, pow12, dicS_d, dicO_1, keyO_s, keyO_i, dgK_1, dgK2_1, diK_1, diK2_f, diK2_t, valD_n, mergeD_n, mergeD_c, putD_n, ienK_1, ppNil_u, ppK_1, ppK2_1, ppK3_1, keysD_n, kdK_1, kdK2_1, ddK_1, ddK2_1, g2K_1, g2K1_1, g2K2_1, g2K3_1, g2K4_1, isDic_d, dpK_1, dpK1_1, dpK2_1, dpK3_1, dbK_1, dbK2_1, bdCopy_1, ddNew_u, dicS_r, dGet_u, dInK_u, valD_c, putD_c, iEnumD_u, ppCons_u, keysD_c, ddDisp_u, eGet2_u, sDput_u, ddCopy_u, List.map_cons, List.map_nil, List.length_cons, List.length_nil, List.cons_append, List.nil_append, List.append_nil, List.getElem?_cons_zero, List.getElem?_cons_succ, List.set_cons_zero, List.set_cons_succ, ofString_inj, ofString_beq, e, h, h', inn, innD, Pc.d, Fr.d, atI, ixN]
  | plus a f g => cases h : f.isV <;> cases h' : g.isV <;> simp [bodies, varK_1, eVar_u, eC_u, aNil_u, acK1_1, acK2_1, aCons_u, tupK_1, eTup_u, ldK_1, lDisp_u, eLK_1, eLMK_1, eL_u, eLM_u, eDiK_1, eDMK_1, eDi_u, eDM_u, opK1_1, opK2_1, opK3_1, eOp_u, negK_1, eNeg_u, slK1_1, slK2_1, slK3_1, slK4_1, ptSK_1, ptN_u, ptS_u, eSlice_u, callK_1, eCall_u, biK_1, blK_1, blK2_1, eBi_u, lBi_u, isiK_1, isiK2_1, eIsi_u, revK_1, revK2_1, lRev_u, andEK_1, andEK_2, orEK_1, orEK_2, notEK_1, orSK_1, ifEK_1, ifEK_2, tofK_1, eAnd_u, eOr_u, eNot_u, eOrS_u, eIf_u, tOf_u, chK1_1, chK2_1, chK3_1, chK3_2, eChain_u, tandK_1, tandK_2, torK_1, torK_2, tnotK_1, tTrue_u, tfAnd_u, tfOr_u, tfNot_u, lcK1_1, lcK2_1, lcK3_1, lcK3_2, lcK4_1, lcK5_1, lcD_n, lcD_c, aLc_u, wipeD_n, wipeD_c, gdName_u, gsK_1, gsNil_u, gdTup_u, gsCons_u, iseqK_1, iseqK2_1, itupK_1, istrK_1, irng1K_1, irng2K_1, seqP_1, seqP_2, iSeq_u, iTupD_u, iStrD_u, iRange1_u, iRange2_u, m1K_1, m1K2_1, m0K_1, s1K_1, eMeth1_u, eMeth0_u, eS1_u, setK_1, asgK_1, asgK2_1, retK_1, expK_1, seqK_1, seqK_2, seqK_3, ifK_1, ifK_2, forK_1, forD_n, forK2_1, forK3_1, forK3_2, forK3_3, fnK_1, fnK_2, gcK_1, sNext_u, sBrk_u, stK_1, stK0_1, stK1_1, stK2_1, sSet_u, sAsg_u, sRet_u, sExp_u, sSeq_u, sIf_u, sFor_u, forD_c, fnD_u, gcFn_u, sSetIx_u, dAdd_i, dAdd_s, dAdd_t, dAdd_l, dSub_i, dCmp_i, dEq_s, dEq_i, dEq_b, dNe_s, dNe_i, dNe_b, dIx_t, dIx_l, dIx_c, dSlice_t, dSlice_l, dSlice_c, dSlice_s, bLen_t, bLen_l, bLen_s, bTup_t, bTup_l, blList_t, blList_l, bInt_i, bInt_t, bInt_f, bMin_i, dIsN_1, dIsN_2, seqL_l, seqL_c, dMod_i, dDiv_i, dMul_r, dMul_l, bLen_c, gc_same, pow12, dicS_d, dicO_1, keyO_s, keyO_i, dgK_1, dgK2_1, diK_1, diK2_f, diK2_t, valD_n, mergeD_n, mergeD_c, putD_n, ienK_1, ppNil_u, ppK_1, ppK2_1, ppK3_1, keysD_n, kdK_1, kdK2_1, ddK_1, ddK2_1, g2K_1, g2K1_1, g2K2_1, g2K3_1, g2K4_1, isDic_d, dpK_1, dpK1_1, dpK2_1, dpK3_1, dbK_1, dbK2_1, bdCopy_1, ddNew_u, dicS_r, dGet_u, dInK_u, valD_c, putD_c, iEnumD_u, ppCons_u, keysD_c, ddDisp_u, eGet2_u, sDput_u, ddCopy_u, List.map_cons, List.map_nil, List.length_cons, List.length_nil, List.cons_append, List.nil_append, List.append_nil, List.getElem?_cons_zero, List.getElem?_cons_succ, List.set_cons_zero, List.set_cons_succ, ofString_inj, ofString_beq, e, h, h', inn, innD, Pc.d, Fr.d, atI, ixN]
  | num n => simp [bodies, varK_1, eVar_u, eC_u, aNil_u, acK1_1, acK2_1, aCons_u, tupK_1, eTup_u, ldK_1, lDisp_u, eLK_1, eLMK_1, eL_u, eLM_u, eDiK_1, eDMK_1, eDi_u, eDM_u, opK1_1, opK2_1, opK3_1, eOp_u, negK_1, eNeg_u, slK1_1, slK2_1, slK3_1, slK4_1, ptSK_1, ptN_u, ptS_u, eSlice_u, callK_1, eCall_u, biK_1, blK_1, blK2_1, eBi_u, lBi_u, isiK_1, isiK2_1, eIsi_u, revK_1, revK2_1, lRev_u, andEK_1, andEK_2, orEK_1, orEK_2, notEK_1, orSK_1, ifEK_1, ifEK_2, tofK_1, eAnd_u, eOr_u, eNot_u, eOrS_u, eIf_u, tOf_u, chK1_1, chK2_1, chK3_1, chK3_2, eChain_u, tandK_1, tandK_2, torK_1, torK_2, tnotK_1, tTrue_u, tfAnd_u, tfOr_u, tfNot_u, lcK1_1, lcK2_1, lcK3_1, lcK3_2, lcK4_1, lcK5_1, lcD_n, lcD_c, aLc_u, wipeD_n, wipeD_c, gdName_u, gsK_1, gsNil_u, gdTup_u, gsCons_u, iseqK_1, iseqK2_1, itupK_1, istrK_1, irng1K_1, irng2K_1, seqP_1, seqP_2, iSeq_u, iTupD_u, iStrD_u, iRange1_u, iRange2_u, m1K_1, m1K2_1, m0K_1, s1K_1, eMeth1_u, eMeth0_u, eS1_u, setK_1, asgK_1, asgK2_1, retK_1, expK_1, seqK_1, seqK_2, seqK_3, ifK_1, ifK_2, forK_1, forD_n, forK2_1, forK3_1, forK3_2, forK3_3, fnK_1, fnK_2, gcK_1, sNext_u, sBrk_u, stK_1, stK0_1, stK1_1, stK2_1, sSet_u, sAsg_u, sRet_u, sExp_u, sSeq_u, sIf_u, sFor_u, forD_c, fnD_u, gcFn_u, sSetIx_u, dAdd_i, dAdd_s, dAdd_t, dAdd_l, dSub_i, dCmp_i, dEq_s, dEq_i, dEq_b, dNe_s, dNe_i, dNe_b, dIx_t, dIx_l, dIx_c, dSlice_t, dSlice_l, dSlice_c, dSlice_s, bLen_t, bLen_l, bLen_s, bTup_t, bTup_l, blList_t, blList_l, bInt_i, bInt_t, bInt_f, bMin_i, dIsN_1, dIsN_2, seqL_l, seqL_c, dMod_i, dDiv_i, dMul_r, dMul_l, bLen_c, gc_same, pow12, dicS_d, dicO_1, keyO_s, keyO_i, dgK_1, dgK2_1, diK_1, diK2_f, diK2_t, valD_n, mergeD_n, mergeD_c, putD_n, ienK_1, ppNil_u, ppK_1, ppK2_1, ppK3_1, keysD_n, kdK_1, kdK2_1, ddK_1, ddK2_1, g2K_1, g2K1_1, g2K2_1, g2K3_1, g2K4_1, isDic_d, dpK_1, dpK1_1, dpK2_1, dpK3_1, dbK_1, dbK2_1, bdCopy_1, ddNew_u, dicS_r, dGet_u, dInK_u, valD_c, putD_c, iEnumD_u, ppCons_u, keysD_c, ddDisp_u, eGet2_u, sDput_u, ddCopy_u, List.map_cons, List.map_nil, List.length_cons, List.length_nil, List.cons_append, List.nil_append, List.append_nil, List.getElem?_cons_zero, List.getElem?_cons_succ, List.set_cons_zero, List.set_cons_succ, ofString_inj, ofString_beq, inn, innD, Pc.d, atI, ixN]
  | name n => simp [bodies, varK_1, eVar_u, eC_u, aNil_u, acK1_1, acK2_1, aCons_u, tupK_1, eTup_u, ldK_1, lDisp_u, eLK_1, eLMK_1, eL_u, eLM_u, eDiK_1, eDMK_1, eDi_u, eDM_u, opK1_1, opK2_1, opK3_1, eOp_u, negK_1, eNeg_u, slK1_1, slK2_1, slK3_1, slK4_1, ptSK_1, ptN_u, ptS_u, eSlice_u, callK_1, eCall_u, biK_1, blK_1, blK2_1, eBi_u, lBi_u, isiK_1, isiK2_1, eIsi_u, revK_1, revK2_1, lRev_u, andEK_1, andEK_2, orEK_1, orEK_2, notEK_1, orSK_1, ifEK_1, ifEK_2, tofK_1, eAnd_u, eOr_u, eNot_u, eOrS_u, eIf_u, tOf_u, chK1_1, chK2_1, chK3_1, chK3_2, eChain_u, tandK_1, tandK_2, torK_1, torK_2, tnotK_1, tTrue_u, tfAnd_u, tfOr_u, tfNot_u, lcK1_1, lcK2_1, lcK3_1, lcK3_2, lcK4_1, lcK5_1, lcD_n, lcD_c, aLc_u, wipeD_n, wipeD_c, gdName_u, gsK_1, gsNil_u, gdTup_u, gsCons_u, iseqK_1, iseqK2_1, itupK_1, istrK_1, irng1K_1, irng2K_1, seqP_1, seqP_2, iSeq_u, iTupD_u, iStrD_u, iRange1_u, iRange2_u, m1K_1, m1K2_1, m0K_1, s1K_1, eMeth1_u, eMeth0_u, eS1_u, setK_1, asgK_1, asgK2_1, retK_1, expK_1, seqK_1, seqK_2, seqK_3, ifK_1, ifK_2, forK_1, forD_n, forK2_1, forK3_1, forK3_2, forK3_3, fnK_1, fnK_2, gcK_1, sNext_u, sBrk_u, stK_1, stK0_1, stK1_1, stK2_1, sSet_u, sAsg_u, sRet_u, sExp_u, sSeq_u, sIf_u, sFor_u, forD_c, fnD_u, gcFn_u, sSetIx_u, dAdd_i, dAdd_s, dAdd_t, dAdd_l, dSub_i, dCmp_i, dEq_s, dEq_i, dEq_b, dNe_s, dNe_i, dNe_b, dIx_t, dIx_l, dIx_c, dSlice_t, dSlice_l, dSlice_c, dSlice_s, bLen_t, bLen_l, bLen_s, bTup_t, bTup_l, blList_t, blList_l, bInt_i, bInt_t, bInt_f, bMin_i, dIsN_1, dIsN_2, seqL_l, seqL_c, dMod_i, dDiv_i, dMul_r, dMul_l, bLen_c, gc_same, pow12, dicS_d, dicO_1, keyO_s, keyO_i, dgK_1, dgK2_1, diK_1, diK2_f, diK2_t, valD_n, mergeD_n, mergeD_c, putD_n, ienK_1, ppNil_u, ppK_1, ppK2_1, ppK3_1, keysD_n, kdK_1, kdK2_1, ddK_1, ddK2_1, g2K_1, g2K1_1, g2K2_1, g2K3_1, g2K4_1, isDic_d, dpK_1, dpK1_1, dpK2_1, dpK3_1, dbK_1, dbK2_1, bdCopy_1, ddNew_u, dicS_r, dGet_u, dInK_u, valD_c, putD_c, iEnumD_u, ppCons_u, keysD_c, ddDisp_u, eGet2_u, sDput_u, ddCopy_u, List.map_cons, List.map_nil, List.length_cons, List.length_nil, List.cons_append, List.nil_append, List.append_nil, List.getElem?_cons_zero, List.getElem?_cons_succ, List.set_cons_zero, List.set_cons_succ, ofString_inj, ofString_beq, inn, innD, Pc.d, atI, ixN]
  | fn a x b => simp [bodies, varK_1, eVar_u, eC_u, aNil_u, acK1_1, acK2_1, aCons_u, tupK_1, eTup_u, ldK_1, lDisp_u, eLK_1, eLMK_1, eL_u, eLM_u, eDiK_1, eDMK_1, eDi_u, eDM_u, opK1_1, opK2_1, opK3_1, eOp_u, negK_1, eNeg_u, slK1_1, slK2_1, slK3_1, slK4_1, ptSK_1, ptN_u, ptS_u, eSlice_u, callK_1, eCall_u, biK_1, blK_1, blK2_1, eBi_u, lBi_u, isiK_1, isiK2_1, eIsi_u, revK_1, revK2_1, lRev_u, andEK_1, andEK_2, orEK_1, orEK_2, notEK_1, orSK_1, ifEK_1, ifEK_2, tofK_1, eAnd_u, eOr_u, eNot_u, eOrS_u, eIf_u, tOf_u, chK1_1, chK2_1, chK3_1, chK3_2, eChain_u, tandK_1, tandK_2, torK_1, torK_2, tnotK_1, tTrue_u, tfAnd_u, tfOr_u, tfNot_u, lcK1_1, lcK2_1, lcK3_1, lcK3_2, lcK4_1, lcK5_1, lcD_n, lcD_c, aLc_u, wipeD_n, wipeD_c, gdName_u, gsK_1, gsNil_u, gdTup_u, gsCons_u, iseqK_1, iseqK2_1, itupK_1, istrK_1, irng1K_1, irng2K_1, seqP_1, seqP_2, iSeq_u, iTupD_u, iStrD_u, iRange1_u, iRange2_u, m1K_1, m1K2_1, m0K_1, s1K_1, eMeth1_u, eMeth0_u, eS1_u, setK_1, asgK_1, asgK2_1, retK_1, expK_1, seqK_1, seqK_2, seqK_3, ifK_1, ifK_2, forK_1, forD_n, forK2_1, forK3_1, forK3_2, forK3_3, fnK_1, fnK_2, gcK_1, sNext_u, sBrk_u, stK_1, stK0_1, stK1_1, stK2_1, sSet_u, sAsg_u, sRet_u, sExp_u, sSeq_u, sIf_u, sFor_u, forD_c, fnD_u, gcFn_u, sSetIx_u, dAdd_i, dAdd_s, dAdd_t, dAdd_l, dSub_i, dCmp_i, dEq_s, dEq_i, dEq_b, dNe_s, dNe_i, dNe_b, dIx_t, dIx_l, dIx_c, dSlice_t, dSlice_l, dSlice_c, dSlice_s, bLen_t, bLen_l, bLen_s, bTup_t, bTup_l, blList_t, blList_l, bInt_i, bInt_t, bInt_f, bMin_i, dIsN_1, dIsN_2, seqL_l, seqL_c, dMod_i, dDiv_i, dMul_r, dMul_l, bLen_c, gc_same, pow12, dicS_d, dicO_1, keyO_s, keyO_i, dgK_1, dgK2_1, diK_1, diK2_f, diK2_t, valD_n, mergeD_n, mergeD_c, putD_n, ienK_1, ppNil_u, ppK_1, ppK2_1, ppK3_1, keysD_n, kdK_1, kdK2_1, ddK_1, ddK2_1, g2K_1, g2K1_1, g2K2_1, g2K3_1, g2K4_1, isDic_d, dpK_1, dpK1_1, dpK2_1, dpK3_1, dbK_1, dbK2_1, bdCopy_1, ddNew_u, dicS_r, dGet_u, dInK_u, valD_c, putD_c, iEnumD_u, ppCons_u, keysD_c, ddDisp_u, eGet2_u, sDput_u, ddCopy_u, List.map_cons, List.map_nil, List.length_cons, List.length_nil, List.cons_append, List.nil_append, List.append_nil, List.getElem?_cons_zero, List.getElem?_cons_succ, List.set_cons_zero, List.set_cons_succ, ofString_inj, ofString_beq, inn, innD, Pc.d, atI, ixN]
  | take a x b => simp [bodies, varK_1, eVar_u, eC_u, aNil_u, acK1_1, acK2_1, aCons_u, tupK_1, eTup_u, ldK_1, lDisp_u, eLK_1, eLMK_1, eL_u, eLM_u, eDiK_1, eDMK_1, eDi_u, eDM_u, opK1_1, opK2_1, opK3_1, eOp_u, negK_1, eNeg_u, slK1_1, slK2_1, slK3_1, slK4_1, ptSK_1, ptN_u, ptS_u, eSlice_u, callK_1, eCall_u, biK_1, blK_1, blK2_1, eBi_u, lBi_u, isiK_1, isiK2_1, eIsi_u, revK_1, revK2_1, lRev_u, andEK_1, andEK_2, orEK_1, orEK_2, notEK_1, orSK_1, ifEK_1, ifEK_2, tofK_1, eAnd_u, eOr_u, eNot_u, eOrS_u, eIf_u, tOf_u, chK1_1, chK2_1, chK3_1, chK3_2, eChain_u, tandK_1, tandK_2, torK_1, torK_2, tnotK_1, tTrue_u, tfAnd_u, tfOr_u, tfNot_u, lcK1_1, lcK2_1, lcK3_1, lcK3_2, lcK4_1, lcK5_1, lcD_n, lcD_c, aLc_u, wipeD_n, wipeD_c, gdName_u, gsK_1, gsNil_u, gdTup_u, gsCons_u, iseqK_1, iseqK2_1, itupK_1, istrK_1, irng1K_1, irng2K_1, seqP_1, seqP_2, iSeq_u, iTupD_u, iStrD_u, iRange1_u, iRange2_u, m1K_1, m1K2_1, m0K_1, s1K_1, eMeth1_u, eMeth0_u, eS1_u, setK_1, asgK_1, asgK2_1, retK_1, expK_1, seqK_1, seqK_2, seqK_3, ifK_1, ifK_2, forK_1, forD_n, forK2_1, forK3_1, forK3_2, forK3_3, fnK_1, fnK_2, gcK_1, sNext_u, sBrk_u, stK_1, stK0_1, stK1_1, stK2_1, sSet_u, sAsg_u, sRet_u, sExp_u, sSeq_u, sIf_u, sFor_u, forD_c, fnD_u, gcFn_u, sSetIx_u, dAdd_i, dAdd_s, dAdd_t, dAdd_l, dSub_i, dCmp_i, dEq_s, dEq_i, dEq_b, dNe_s, dNe_i, dNe_b, dIx_t, dIx_l, dIx_c, dSlice_t, dSlice_l, dSlice_c, dSlice_s, bLen_t, bLen_l, bLen_s, bTup_t, bTup_l, blList_t, blList_l, bInt_i, bInt_t, bInt_f, bMin_i, dIsN_1, dIsN_2, seqL_l, seqL_c, dMod_i, dDiv_i, dMul_r, dMul_l, bLen_c, gc_same, pow12, dicS_d, dicO_1, keyO_s, keyO_i, dgK_1, dgK2_1, diK_1, diK2_f, diK2_t, valD_n, mergeD_n, mergeD_c, putD_n, ienK_1, ppNil_u, ppK_1, ppK2_1, ppK3_1, keysD_n, kdK_1, kdK2_1, ddK_1, ddK2_1, g2K_1, g2K1_1, g2K2_1, g2K3_1, g2K4_1, isDic_d, dpK_1, dpK1_1, dpK2_1, dpK3_1, dbK_1, dbK2_1, bdCopy_1, ddNew_u, dicS_r, dGet_u, dInK_u, valD_c, putD_c, iEnumD_u, ppCons_u, keysD_c, ddDisp_u, eGet2_u, sDput_u, ddCopy_u, List.map_cons, List.map_nil, List.length_cons, List.length_nil, List.cons_append, List.nil_append, List.append_nil, List.getElem?_cons_zero, List.getElem?_cons_succ, List.set_cons_zero, List.set_cons_succ, ofString_inj, ofString_beq, inn, innD, Pc.d, atI, ixN]
  | shut a x b => simp [bodies, varK_1, eVar_u, eC_u, aNil_u, acK1_1, acK2_1, aCons_u, tupK_1, eTup_u, ldK_1, lDisp_u, eLK_1, eLMK_1, eL_u, eLM_u, eDiK_1, eDMK_1, eDi_u, eDM_u, opK1_1, opK2_1, opK3_1, eOp_u, negK_1, eNeg_u, slK1_1, slK2_1, slK3_1, slK4_1, ptSK_1, ptN_u, ptS_u, eSlice_u, callK_1, eCall_u, biK_1, blK_1, blK2_1, eBi_u, lBi_u, isiK_1, isiK2_1, eIsi_u, revK_1, revK2_1, lRev_u, andEK_1, andEK_2, orEK_1, orEK_2, notEK_1, orSK_1, ifEK_1, ifEK_2, tofK_1, eAnd_u, eOr_u, eNot_u, eOrS_u, eIf_u, tOf_u, chK1_1, chK2_1, chK3_1, chK3_2, eChain_u, tandK_1, tandK_2, torK_1, torK_2, tnotK_1, tTrue_u, tfAnd_u, tfOr_u, tfNot_u, lcK1_1, lcK2_1, lcK3_1, lcK3_2, lcK4_1, lcK5_1, lcD_n, lcD_c, aLc_u, wipeD_n, wipeD_c, gdName_u, gsK_1, gsNil_u, gdTup_u, gsCons_u, iseqK_1, iseqK2_1, itupK_1, istrK_1, irng1K_1, irng2K_1, seqP_1, seqP_2, iSeq_u, iTupD_u, iStrD_u, iRange1_u, iRange2_u, m1K_1, m1K2_1, m0K_1, s1K_1, eMeth1_u, eMeth0_u, eS1_u, setK_1, asgK_1, asgK2_1, retK_1, expK_1, seqK_1, seqK_2, seqK_3, ifK_1, ifK_2, forK_1, forD_n, forK2_1, forK3_1, forK3_2, forK3_3, fnK_1, fnK_2, gcK_1, sNext_u, sBrk_u, stK_1, stK0_1, stK1_1, stK2_1, sSet_u, sAsg_u, sRet_u, sExp_u, sSeq_u, sIf_u, sFor_u, forD_c, fnD_u, gcFn_u, sSetIx_u, dAdd_i, dAdd_s, dAdd_t, dAdd_l, dSub_i, dCmp_i, dEq_s, dEq_i, dEq_b, dNe_s, dNe_i, dNe_b, dIx_t, dIx_l, dIx_c, dSlice_t, dSlice_l, dSlice_c, dSlice_s, bLen_t, bLen_l, bLen_s, bTup_t, bTup_l, blList_t, blList_l, bInt_i, bInt_t, bInt_f, bMin_i, dIsN_1, dIsN_2, seqL_l, seqL_c, dMod_i, dDiv_i, dMul_r, dMul_l, bLen_c, gc_same, pow12, dicS_d, dicO_1, keyO_s, keyO_i, dgK_1, dgK2_1, diK_1, diK2_f, diK2_t, valD_n, mergeD_n, mergeD_c, putD_n, ienK_1, ppNil_u, ppK_1, ppK2_1, ppK3_1, keysD_n, kdK_1, kdK2_1, ddK_1, ddK2_1, g2K_1, g2K1_1, g2K2_1, g2K3_1, g2K4_1, isDic_d, dpK_1, dpK1_1, dpK2_1, dpK3_1, dbK_1, dbK2_1, bdCopy_1, ddNew_u, dicS_r, dGet_u, dInK_u, valD_c, putD_c, iEnumD_u, ppCons_u, keysD_c, ddDisp_u, eGet2_u, sDput_u, ddCopy_u, List.map_cons, List.map_nil, List.length_cons, List.length_nil, List.cons_append, List.nil_append, List.append_nil, List.getElem?_cons_zero, List.getElem?_cons_succ, List.set_cons_zero, List.set_cons_succ, ofString_inj, ofString_beq, inn, innD, Pc.d, atI, ixN]
  | kept a fs => simp [bodies, varK_1, eVar_u, eC_u, aNil_u, acK1_1, acK2_1, aCons_u, tupK_1, eTup_u, ldK_1, lDisp_u, eLK_1, eLMK_1, eL_u, eLM_u, eDiK_1, eDMK_1, eDi_u, eDM_u, opK1_1, opK2_1, opK3_1, eOp_u, negK_1, eNeg_u, slK1_1, slK2_1, slK3_1, slK4_1, ptSK_1, ptN_u, ptS_u, eSlice_u, callK_1, eCall_u, biK_1, blK_1, blK2_1, eBi_u, lBi_u, isiK_1, isiK2_1, eIsi_u, revK_1, revK2_1, lRev_u, andEK_1, andEK_2, orEK_1, orEK_2, notEK_1, orSK_1, ifEK_1, ifEK_2, tofK_1, eAnd_u, eOr_u, eNot_u, eOrS_u, eIf_u, tOf_u, chK1_1, chK2_1, chK3_1, chK3_2, eChain_u, tandK_1, tandK_2, torK_1, torK_2, tnotK_1, tTrue_u, tfAnd_u, tfOr_u, tfNot_u, lcK1_1, lcK2_1, lcK3_1, lcK3_2, lcK4_1, lcK5_1, lcD_n, lcD_c, aLc_u, wipeD_n, wipeD_c, gdName_u, gsK_1, gsNil_u, gdTup_u, gsCons_u, iseqK_1, iseqK2_1, itupK_1, istrK_1, irng1K_1, irng2K_1, seqP_1, seqP_2, iSeq_u, iTupD_u, iStrD_u, iRange1_u, iRange2_u, m1K_1, m1K2_1, m0K_1, s1K_1, eMeth1_u, eMeth0_u, eS1_u, setK_1, asgK_1, asgK2_1, retK_1, expK_1, seqK_1, seqK_2, seqK_3, ifK_1, ifK_2, forK_1, forD_n, forK2_1, forK3_1, forK3_2, forK3_3, fnK_1, fnK_2, gcK_1, sNext_u, sBrk_u, stK_1, stK0_1, stK1_1, stK2_1, sSet_u, sAsg_u, sRet_u, sExp_u, sSeq_u, sIf_u, sFor_u, forD_c, fnD_u, gcFn_u, sSetIx_u, dAdd_i, dAdd_s, dAdd_t, dAdd_l, dSub_i, dCmp_i, dEq_s, dEq_i, dEq_b, dNe_s, dNe_i, dNe_b, dIx_t, dIx_l, dIx_c, dSlice_t, dSlice_l, dSlice_c, dSlice_s, bLen_t, bLen_l, bLen_s, bTup_t, bTup_l, blList_t, blList_l, bInt_i, bInt_t, bInt_f, bMin_i, dIsN_1, dIsN_2, seqL_l, seqL_c, dMod_i, dDiv_i, dMul_r, dMul_l, bLen_c, gc_same, pow12, dicS_d, dicO_1, keyO_s, keyO_i, dgK_1, dgK2_1, diK_1, diK2_f, diK2_t, valD_n, mergeD_n, mergeD_c, putD_n, ienK_1, ppNil_u, ppK_1, ppK2_1, ppK3_1, keysD_n, kdK_1, kdK2_1, ddK_1, ddK2_1, g2K_1, g2K1_1, g2K2_1, g2K3_1, g2K4_1, isDic_d, dpK_1, dpK1_1, dpK2_1, dpK3_1, dbK_1, dbK2_1, bdCopy_1, ddNew_u, dicS_r, dGet_u, dInK_u, valD_c, putD_c, iEnumD_u, ppCons_u, keysD_c, ddDisp_u, eGet2_u, sDput_u, ddCopy_u, List.map_cons, List.map_nil, List.length_cons, List.length_nil, List.cons_append, List.nil_append, List.append_nil, List.getElem?_cons_zero, List.getElem?_cons_succ, List.set_cons_zero, List.set_cons_succ, ofString_inj, ofString_beq, inn, innD, Pc.d, atI, ixN]
theorem append_new (S : List O) (ds : List D) (v : D) (h : ds.length < 16777216) : kAppend (.ref S.length) v (S ++ [.lst ds]) = some (.non, S ++ [.lst (ds ++ [v])]) := by
  unfold kAppend setO
  simp [h]
theorem isLst_new (S : List O) (ds : List D) : isLst (S ++ [.lst ds]) (.ref S.length) = true := by
  unfold isLst
  simp
theorem reverse_new (S : List O) (ds : List D) : kReverse (.ref S.length) (S ++ [.lst ds]) = some (.non, S ++ [.lst ds.reverse]) := by
  unfold kReverse setO
  simp
theorem seqL_new (S : List O) (ds : List D) : seqL (S ++ [.lst ds]) (.ref S.length) = some ds := by
  unfold seqL
  simp
def partB (F : Fns) : B := sSeq (sExp (eMeth1 kAppend (eVar 1) (eOp dIx (eVar 2) (eC (.int 0))))) (sSeq (sSet 0 (eOp dIx (eVar 2) (eC (.int 1)))) (sSet 2 (eCall 1 (F .inner_of) (aCons (eVar 0) aNil))))
theorem parted_loop {k : Nat} (hk : 2 ≤ k) (S : List O) : ∀ (p : Pc) (ds : List D) (n : Nat), (frs p).length + 1 ≤ n → ds.length + (frs p).length < 16777216 →
    whD (tOf (eOp (dIsN true) (eVar 2) (eC .non))) (partB (Fk k)) n [some p.d, some (.ref S.length), some (innD (inn p))] (S ++ [.lst ds]) =
      some (.nx [some (hd p).d, some (.ref S.length), some .non] (S ++ [.lst (ds ++ Fr.ds (frs p))])) := by
  intro p
  induction p using frs_ind with
  | h0 p h =>
    intro ds n hn hl
    obtain ⟨n, rfl⟩ : ∃ j, n = j + 1 := ⟨n - 1, by omega⟩
    rw [(inn_none h).1, (inn_none h).2, h]
    unfold whD
    simp [varK_1, eVar_u, eC_u, aNil_u, acK1_1, acK2_1, aCons_u, tupK_1, eTup_u, ldK_1, lDisp_u, eLK_1, eLMK_1, eL_u, eLM_u, eDiK_1, eDMK_1, eDi_u, eDM_u, opK1_1, opK2_1, opK3_1, eOp_u, negK_1, eNeg_u, slK1_1, slK2_1, slK3_1, slK4_1, ptSK_1, ptN_u, ptS_u, eSlice_u, callK_1, eCall_u, biK_1, blK_1, blK2_1, eBi_u, lBi_u, isiK_1, isiK2_1, eIsi_u, revK_1, revK2_1, lRev_u, andEK_1, andEK_2, orEK_1, orEK_2, notEK_1, orSK_1, ifEK_1, ifEK_2, tofK_1, eAnd_u, eOr_u, eNot_u, eOrS_u, eIf_u, tOf_u, chK1_1, chK2_1, chK3_1, chK3_2, eChain_u, tandK_1, tandK_2, torK_1, torK_2, tnotK_1, tTrue_u, tfAnd_u, tfOr_u, tfNot_u, lcK1_1, lcK2_1, lcK3_1, lcK3_2, lcK4_1, lcK5_1, lcD_n, lcD_c, aLc_u, wipeD_n, wipeD_c, gdName_u, gsK_1, gsNil_u, gdTup_u, gsCons_u, iseqK_1, iseqK2_1, itupK_1, istrK_1, irng1K_1, irng2K_1, seqP_1, seqP_2, iSeq_u, iTupD_u, iStrD_u, iRange1_u, iRange2_u, m1K_1, m1K2_1, m0K_1, s1K_1, eMeth1_u, eMeth0_u, eS1_u, setK_1, asgK_1, asgK2_1, retK_1, expK_1, seqK_1, seqK_2, seqK_3, ifK_1, ifK_2, forK_1, forD_n, forK2_1, forK3_1, forK3_2, forK3_3, fnK_1, fnK_2, gcK_1, sNext_u, sBrk_u, stK_1, stK0_1, stK1_1, stK2_1, sSet_u, sAsg_u, sRet_u, sExp_u, sSeq_u, sIf_u, sFor_u, forD_c, fnD_u, gcFn_u, sSetIx_u, dAdd_i, dAdd_s, dAdd_t, dAdd_l, dSub_i, dCmp_i, dEq_s, dEq_i, dEq_b, dNe_s, dNe_i, dNe_b, dIx_t, dIx_l, dIx_c, dSlice_t, dSlice_l, dSlice_c, dSlice_s, bLen_t, bLen_l, bLen_s, bTup_t, bTup_l, blList_t, blList_l, bInt_i, bInt_t, bInt_f, bMin_i, dIsN_1, dIsN_2, seqL_l, seqL_c, dMod_i, dDiv_i, dMul_r, dMul_l, bLen_c, gc_same, pow12, dicS_d, dicO_1, keyO_s, keyO_i, dgK_1, dgK2_1, diK_1, diK2_f, diK2_t, valD_n, mergeD_n, mergeD_c, putD_n, ienK_1, ppNil_u, ppK_1, ppK2_1, ppK3_1, keysD_n, kdK_1, kdK2_1, ddK_1, ddK2_1, g2K_1, g2K1_1, g2K2_1, g2K3_1, g2K4_1, isDic_d, dpK_1, dpK1_1, dpK2_1, dpK3_1, dbK_1, dbK2_1, bdCopy_1, ddNew_u, dicS_r, dGet_u, dInK_u, valD_c, putD_c, iEnumD_u, ppCons_u, keysD_c, ddDisp_u, eGet2_u, sDput_u, ddCopy_u, List.map_cons, List.map_nil, List.length_cons, List.length_nil, List.cons_append, List.nil_append, List.append_nil, List.getElem?_cons_zero, List.getElem?_cons_succ, List.set_cons_zero, List.set_cons_succ, ofString_inj, ofString_beq, innD, isNon, Fr.ds]
  | h1 p f q h ih =>
    intro ds n hn hl
    obtain ⟨n, rfl⟩ : ∃ j, n = j + 1 := ⟨n - 1, by omega⟩
    obtain ⟨e1, e2, _⟩ := inn_some h
    rw [e1] at hn hl
    simp only [List.length_cons] at hn hl
    have e3 := inner_of_D hk q (S ++ [.lst (ds ++ [f.d])])
    have e4 := append_new S ds f.d (by omega)
    have e5 := isLst_new S ds
    rw [e1, e2, h]
    unfold whD
    have st : partB (Fk k) [some p.d, some (.ref S.length), some (innD (some (f, q)))] (S ++ [.lst ds]) = some (.nx [some q.d, some (.ref S.length), some (innD (inn q))] (S ++ [.lst (ds ++ [f.d])])) := by
      simp [partB, varK_1, eVar_u, eC_u, aNil_u, acK1_1, acK2_1, aCons_u, tupK_1, eTup_u, ldK_1, lDisp_u, eLK_1, eLMK_1, eL_u, eLM_u, eDiK_1, eDMK_1, eDi_u, eDM_u, opK1_1, opK2_1, opK3_1, eOp_u, negK_1, eNeg_u, slK1_1, slK2_1, slK3_1, slK4_1, ptSK_1, ptN_u, ptS_u, eSlice_u, callK_1, eCall_u, biK_1, blK_1, blK2_1, eBi_u, lBi_u, isiK_1, isiK2_1, eIsi_u, revK_1, revK2_1, lRev_u, andEK_1, andEK_2, orEK_1, orEK_2, notEK_1, orSK_1, ifEK_1, ifEK_2, tofK_1, eAnd_u, eOr_u, eNot_u, eOrS_u, eIf_u, tOf_u, chK1_1, chK2_1, chK3_1, chK3_2, eChain_u, tandK_1, tandK_2, torK_1, torK_2, tnotK_1, tTrue_u, tfAnd_u, tfOr_u, tfNot_u, lcK1_1, lcK2_1, lcK3_1, lcK3_2, lcK4_1, lcK5_1, lcD_n, lcD_c, aLc_u, wipeD_n, wipeD_c, gdName_u, gsK_1, gsNil_u, gdTup_u, gsCons_u, iseqK_1, iseqK2_1, itupK_1, istrK_1, irng1K_1, irng2K_1, seqP_1, seqP_2, iSeq_u, iTupD_u, iStrD_u, iRange1_u, iRange2_u, m1K_1, m1K2_1, m0K_1, s1K_1, eMeth1_u, eMeth0_u, eS1_u, setK_1, asgK_1, asgK2_1, retK_1, expK_1, seqK_1, seqK_2, seqK_3, ifK_1, ifK_2, forK_1, forD_n, forK2_1, forK3_1, forK3_2, forK3_3, fnK_1, fnK_2, gcK_1, sNext_u, sBrk_u, stK_1, stK0_1, stK1_1, stK2_1, sSet_u, sAsg_u, sRet_u, sExp_u, sSeq_u, sIf_u, sFor_u, forD_c, fnD_u, gcFn_u, sSetIx_u, dAdd_i, dAdd_s, dAdd_t, dAdd_l, dSub_i, dCmp_i, dEq_s, dEq_i, dEq_b, dNe_s, dNe_i, dNe_b, dIx_t, dIx_l, dIx_c, dSlice_t, dSlice_l, dSlice_c, dSlice_s, bLen_t, bLen_l, bLen_s, bTup_t, bTup_l, blList_t, blList_l, bInt_i, bInt_t, bInt_f, bMin_i, dIsN_1, dIsN_2, seqL_l, seqL_c, dMod_i, dDiv_i, dMul_r, dMul_l, bLen_c, gc_same, pow12, dicS_d, dicO_1, keyO_s, keyO_i, dgK_1, dgK2_1, diK_1, diK2_f, diK2_t, valD_n, mergeD_n, mergeD_c, putD_n, ienK_1, ppNil_u, ppK_1, ppK2_1, ppK3_1, keysD_n, kdK_1, kdK2_1, ddK_1, ddK2_1, g2K_1, g2K1_1, g2K2_1, g2K3_1, g2K4_1, isDic_d, dpK_1, dpK1_1, dpK2_1, dpK3_1, dbK_1, dbK2_1, bdCopy_1, ddNew_u, dicS_r, dGet_u, dInK_u, valD_c, putD_c, iEnumD_u, ppCons_u, keysD_c, ddDisp_u, eGet2_u, sDput_u, ddCopy_u, List.map_cons, List.map_nil, List.length_cons, List.length_nil, List.cons_append, List.nil_append, List.append_nil, List.getElem?_cons_zero, List.getElem?_cons_succ, List.set_cons_zero, List.set_cons_succ, ofString_inj, ofString_beq, innD, e3, e4, e5, atI, ixN]
    have c : tOf (eOp (dIsN true) (eVar 2) (eC .non)) [some p.d, some (.ref S.length), some (innD (some (f, q)))] (S ++ [.lst ds]) = some (true, S ++ [.lst ds]) := by
      simp [varK_1, eVar_u, eC_u, aNil_u, acK1_1, acK2_1, aCons_u, tupK_1, eTup_u, ldK_1, lDisp_u, eLK_1, eLMK_1, eL_u, eLM_u, eDiK_1, eDMK_1, eDi_u, eDM_u, opK1_1, opK2_1, opK3_1, eOp_u, negK_1, eNeg_u, slK1_1, slK2_1, slK3_1, slK4_1, ptSK_1, ptN_u, ptS_u, eSlice_u, callK_1, eCall_u, biK_1, blK_1, blK2_1, eBi_u, lBi_u, isiK_1, isiK2_1, eIsi_u, revK_1, revK2_1, lRev_u, andEK_1, andEK_2, orEK_1, orEK_2, notEK_1, orSK_1, ifEK_1, ifEK_2, tofK_1, eAnd_u, eOr_u, eNot_u, eOrS_u, eIf_u, tOf_u, chK1_1, chK2_1, chK3_1, chK3_2, eChain_u, tandK_1, tandK_2, torK_1, torK_2, tnotK_1, tTrue_u, tfAnd_u, tfOr_u, tfNot_u, lcK1_1, lcK2_1, lcK3_1, lcK3_2, lcK4_1, lcK5_1, lcD_n, lcD_c, aLc_u, wipeD_n, wipeD_c, gdName_u, gsK_1, gsNil_u, gdTup_u, gsCons_u, iseqK_1, iseqK2_1, itupK_1, istrK_1, irng1K_1, irng2K_1, seqP_1, seqP_2, iSeq_u, iTupD_u, iStrD_u, iRange1_u, iRange2_u, m1K_1, m1K2_1, m0K_1, s1K_1, eMeth1_u, eMeth0_u, eS1_u, setK_1, asgK_1, asgK2_1, retK_1, expK_1, seqK_1, seqK_2, seqK_3, ifK_1, ifK_2, forK_1, forD_n, forK2_1, forK3_1, forK3_2, forK3_3, fnK_1, fnK_2, gcK_1, sNext_u, sBrk_u, stK_1, stK0_1, stK1_1, stK2_1, sSet_u, sAsg_u, sRet_u, sExp_u, sSeq_u, sIf_u, sFor_u, forD_c, fnD_u, gcFn_u, sSetIx_u, dAdd_i, dAdd_s, dAdd_t, dAdd_l, dSub_i, dCmp_i, dEq_s, dEq_i, dEq_b, dNe_s, dNe_i, dNe_b, dIx_t, dIx_l, dIx_c, dSlice_t, dSlice_l, dSlice_c, dSlice_s, bLen_t, bLen_l, bLen_s, bTup_t, bTup_l, blList_t, blList_l, bInt_i, bInt_t, bInt_f, bMin_i, dIsN_1, dIsN_2, seqL_l, seqL_c, dMod_i, dDiv_i, dMul_r, dMul_l, bLen_c, gc_same, pow12, dicS_d, dicO_1, keyO_s, keyO_i, dgK_1, dgK2_1, diK_1, diK2_f, diK2_t, valD_n, mergeD_n, mergeD_c, putD_n, ienK_1, ppNil_u, ppK_1, ppK2_1, ppK3_1, keysD_n, kdK_1, kdK2_1, ddK_1, ddK2_1, g2K_1, g2K1_1, g2K2_1, g2K3_1, g2K4_1, isDic_d, dpK_1, dpK1_1, dpK2_1, dpK3_1, dbK_1, dbK2_1, bdCopy_1, ddNew_u, dicS_r, dGet_u, dInK_u, valD_c, putD_c, iEnumD_u, ppCons_u, keysD_c, ddDisp_u, eGet2_u, sDput_u, ddCopy_u, List.map_cons, List.map_nil, List.length_cons, List.length_nil, List.cons_append, List.nil_append, List.append_nil, List.getElem?_cons_zero, List.getElem?_cons_succ, List.set_cons_zero, List.set_cons_succ, ofString_inj, ofString_beq, innD, isNon]
    rw [c]
    simp only [Option.bind_some, if_true, st]
    rw [ih (ds ++ [f.d]) n (by omega) (by simp; omega)]
    simp [Fr.ds]
theorem parted_D {k : Nat} (hk : 3 ≤ k) (p : Pc) (S : List O) (ok : okS S) (hl : (frs p).length < 10000000) : Fk k .parted [p.d] S = some (.tup [.tup (Fr.ds (frs p).reverse), (hd p).d], S) := by
  obtain ⟨k, rfl⟩ : ∃ j, k = j + 1 := ⟨k - 1, by omega⟩
  have lp := parted_loop (k := k) (by omega) S p [] big (by unfold big; omega) (by simp; omega)
  have e1 := inner_of_D (k := k) (by omega) p (S ++ [.lst []])
  have e2 := isLst_new S (Fr.ds (frs p))
  have e3 := reverse_new S (Fr.ds (frs p))
  have e4 := seqL_new S (Fr.ds (frs p)).reverse
  have g := gc_new (S := S) (d := .tup [.tup (Fr.ds (frs p).reverse), (hd p).d]) (o := .lst (Fr.ds (frs p)).reverse) ok (by simp [okD, okDs, okD_pc, okD_frs]) (by simp)
  have bT : bTup [.ref S.length] (S ++ [.lst (Fr.ds (frs p)).reverse]) = some (.tup (Fr.ds (frs p)).reverse) := by
    unfold bTup
    simp [e4]
  simp only [partB, List.nil_append] at lp
  rw [Fk_s]
  rw [ds_rev] at g ⊢
  simp [bodies, varK_1, eVar_u, eC_u, aNil_u, acK1_1, acK2_1, aCons_u, tupK_1, eTup_u, ldK_1, lDisp_u, eLK_1, eLMK_1, eL_u, eLM_u, eDiK_1, eDMK_1, eDi_u, eDM_u, opK1_1, opK2_1, opK3_1, eOp_u, negK_1, eNeg_u, slK1_1, slK2_1, slK3_1, slK4_1, ptSK_1, ptN_u, ptS_u, eSlice_u, callK_1, eCall_u, biK_1, blK_1, blK2_1, eBi_u, lBi_u, isiK_1, isiK2_1, eIsi_u, revK_1, revK2_1, lRev_u, andEK_1, andEK_2, orEK_1, orEK_2, notEK_1, orSK_1, ifEK_1, ifEK_2, tofK_1, eAnd_u, eOr_u, eNot_u, eOrS_u, eIf_u, tOf_u, chK1_1, chK2_1, chK3_1, chK3_2, eChain_u, tandK_1, tandK_2, torK_1, torK_2, tnotK_1, tTrue_u, tfAnd_u, tfOr_u, tfNot_u, lcK1_1, lcK2_1, lcK3_1, lcK3_2, lcK4_1, lcK5_1, lcD_n, lcD_c, aLc_u, wipeD_n, wipeD_c, gdName_u, gsK_1, gsNil_u, gdTup_u, gsCons_u, iseqK_1, iseqK2_1, itupK_1, istrK_1, irng1K_1, irng2K_1, seqP_1, seqP_2, iSeq_u, iTupD_u, iStrD_u, iRange1_u, iRange2_u, m1K_1, m1K2_1, m0K_1, s1K_1, eMeth1_u, eMeth0_u, eS1_u, setK_1, asgK_1, asgK2_1, retK_1, expK_1, seqK_1, seqK_2, seqK_3, ifK_1, ifK_2, forK_1, forD_n, forK2_1, forK3_1, forK3_2, forK3_3, fnK_1, fnK_2, gcK_1, sNext_u, sBrk_u, stK_1, stK0_1, stK1_1, stK2_1, sSet_u, sAsg_u, sRet_u, sExp_u, sSeq_u, sIf_u, sFor_u, forD_c, fnD_u, gcFn_u, sSetIx_u, dAdd_i, dAdd_s, dAdd_t, dAdd_l, dSub_i, dCmp_i, dEq_s, dEq_i, dEq_b, dNe_s, dNe_i, dNe_b, dIx_t, dIx_l, dIx_c, dSlice_t, dSlice_l, dSlice_c, dSlice_s, bLen_t, bLen_l, bLen_s, bTup_t, bTup_l, blList_t, blList_l, bInt_i, bInt_t, bInt_f, bMin_i, dIsN_1, dIsN_2, seqL_l, seqL_c, dMod_i, dDiv_i, dMul_r, dMul_l, bLen_c, gc_same, pow12, dicS_d, dicO_1, keyO_s, keyO_i, dgK_1, dgK2_1, diK_1, diK2_f, diK2_t, valD_n, mergeD_n, mergeD_c, putD_n, ienK_1, ppNil_u, ppK_1, ppK2_1, ppK3_1, keysD_n, kdK_1, kdK2_1, ddK_1, ddK2_1, g2K_1, g2K1_1, g2K2_1, g2K3_1, g2K4_1, isDic_d, dpK_1, dpK1_1, dpK2_1, dpK3_1, dbK_1, dbK2_1, bdCopy_1, ddNew_u, dicS_r, dGet_u, dInK_u, valD_c, putD_c, iEnumD_u, ppCons_u, keysD_c, ddDisp_u, eGet2_u, sDput_u, ddCopy_u, List.map_cons, List.map_nil, List.length_cons, List.length_nil, List.cons_append, List.nil_append, List.append_nil, List.getElem?_cons_zero, List.getElem?_cons_succ, List.set_cons_zero, List.set_cons_succ, ofString_inj, ofString_beq, sWhile_u, e1, lp, e2, e3, bT, g]
theorem wrapped_D {k : Nat} (hk : 1 ≤ k) (f : Fr) (p : Pc) (S : List O) : Fk k .wrapped [f.d, p.d] S = some ((f.w p).d, S) := by
  obtain ⟨k, rfl⟩ : ∃ j, k = j + 1 := ⟨k - 1, by omega⟩
  rw [Fk_s]
  cases f <;> simp [bodies, varK_1, eVar_u, eC_u, aNil_u, acK1_1, acK2_1, aCons_u, tupK_1, eTup_u, ldK_1, lDisp_u, eLK_1, eLMK_1, eL_u, eLM_u, eDiK_1, eDMK_1, eDi_u, eDM_u, opK1_1, opK2_1, opK3_1, eOp_u, negK_1, eNeg_u, slK1_1, slK2_1, slK3_1, slK4_1, ptSK_1, ptN_u, ptS_u, eSlice_u, callK_1, eCall_u, biK_1, blK_1, blK2_1, eBi_u, lBi_u, isiK_1, isiK2_1, eIsi_u, revK_1, revK2_1, lRev_u, andEK_1, andEK_2, orEK_1, orEK_2, notEK_1, orSK_1, ifEK_1, ifEK_2, tofK_1, eAnd_u, eOr_u, eNot_u, eOrS_u, eIf_u, tOf_u, chK1_1, chK2_1, chK3_1, chK3_2, eChain_u, tandK_1, tandK_2, torK_1, torK_2, tnotK_1, tTrue_u, tfAnd_u, tfOr_u, tfNot_u, lcK1_1, lcK2_1, lcK3_1, lcK3_2, lcK4_1, lcK5_1, lcD_n, lcD_c, aLc_u, wipeD_n, wipeD_c, gdName_u, gsK_1, gsNil_u, gdTup_u, gsCons_u, iseqK_1, iseqK2_1, itupK_1, istrK_1, irng1K_1, irng2K_1, seqP_1, seqP_2, iSeq_u, iTupD_u, iStrD_u, iRange1_u, iRange2_u, m1K_1, m1K2_1, m0K_1, s1K_1, eMeth1_u, eMeth0_u, eS1_u, setK_1, asgK_1, asgK2_1, retK_1, expK_1, seqK_1, seqK_2, seqK_3, ifK_1, ifK_2, forK_1, forD_n, forK2_1, forK3_1, forK3_2, forK3_3, fnK_1, fnK_2, gcK_1, sNext_u, sBrk_u, stK_1, stK0_1, stK1_1, stK2_1, sSet_u, sAsg_u, sRet_u, sExp_u, sSeq_u, sIf_u, sFor_u, forD_c, fnD_u, gcFn_u, sSetIx_u, dAdd_i, dAdd_s, dAdd_t, dAdd_l, dSub_i, dCmp_i, dEq_s, dEq_i, dEq_b, dNe_s, dNe_i, dNe_b, dIx_t, dIx_l, dIx_c, dSlice_t, dSlice_l, dSlice_c, dSlice_s, bLen_t, bLen_l, bLen_s, bTup_t, bTup_l, blList_t, blList_l, bInt_i, bInt_t, bInt_f, bMin_i, dIsN_1, dIsN_2, seqL_l, seqL_c, dMod_i, dDiv_i, dMul_r, dMul_l, bLen_c, gc_same, pow12, dicS_d, dicO_1, keyO_s, keyO_i, dgK_1, dgK2_1, diK_1, diK2_f, diK2_t, valD_n, mergeD_n, mergeD_c, putD_n, ienK_1, ppNil_u, ppK_1, ppK2_1, ppK3_1, keysD_n, kdK_1, kdK2_1, ddK_1, ddK2_1, g2K_1, g2K1_1, g2K2_1, g2K3_1, g2K4_1, isDic_d, dpK_1, dpK1_1, dpK2_1, dpK3_1, dbK_1, dbK2_1, bdCopy_1, ddNew_u, dicS_r, dGet_u, dInK_u, valD_c, putD_c, iEnumD_u, ppCons_u, keysD_c, ddDisp_u, eGet2_u, sDput_u, ddCopy_u, List.map_cons, List.map_nil, List.length_cons, List.length_nil, List.cons_append, List.nil_append, List.append_nil, List.getElem?_cons_zero, List.getElem?_cons_succ, List.set_cons_zero, List.set_cons_succ, ofString_inj, ofString_beq, Fr.d, Fr.w, Pc.d, atI, ixN]
theorem plug_loop {k : Nat} (hk : 1 ≤ k) (S : List O) (d0 : D) : ∀ (fs : List Fr) (p : Pc) (z : Option D), ∃ z', forD (gdName 2) (sSet 1 (eCall 2 (Fk k .wrapped) (aCons (eVar 2) (aCons (eVar 1) aNil)))) (Fr.ds fs) [some d0, some p.d, z] S =
    some (.nx [some d0, some (plug fs p).d, z'] S)
  | [], p, z => ⟨z, by simp [Fr.ds, varK_1, eVar_u, eC_u, aNil_u, acK1_1, acK2_1, aCons_u, tupK_1, eTup_u, ldK_1, lDisp_u, eLK_1, eLMK_1, eL_u, eLM_u, eDiK_1, eDMK_1, eDi_u, eDM_u, opK1_1, opK2_1, opK3_1, eOp_u, negK_1, eNeg_u, slK1_1, slK2_1, slK3_1, slK4_1, ptSK_1, ptN_u, ptS_u, eSlice_u, callK_1, eCall_u, biK_1, blK_1, blK2_1, eBi_u, lBi_u, isiK_1, isiK2_1, eIsi_u, revK_1, revK2_1, lRev_u, andEK_1, andEK_2, orEK_1, orEK_2, notEK_1, orSK_1, ifEK_1, ifEK_2, tofK_1, eAnd_u, eOr_u, eNot_u, eOrS_u, eIf_u, tOf_u, chK1_1, chK2_1, chK3_1, chK3_2, eChain_u, tandK_1, tandK_2, torK_1, torK_2, tnotK_1, tTrue_u, tfAnd_u, tfOr_u, tfNot_u, lcK1_1, lcK2_1, lcK3_1, lcK3_2, lcK4_1, lcK5_1, lcD_n, lcD_c, aLc_u, wipeD_n, wipeD_c, gdName_u, gsK_1, gsNil_u, gdTup_u, gsCons_u, iseqK_1, iseqK2_1, itupK_1, istrK_1, irng1K_1, irng2K_1, seqP_1, seqP_2, iSeq_u, iTupD_u, iStrD_u, iRange1_u, iRange2_u, m1K_1, m1K2_1, m0K_1, s1K_1, eMeth1_u, eMeth0_u, eS1_u, setK_1, asgK_1, asgK2_1, retK_1, expK_1, seqK_1, seqK_2, seqK_3, ifK_1, ifK_2, forK_1, forD_n, forK2_1, forK3_1, forK3_2, forK3_3, fnK_1, fnK_2, gcK_1, sNext_u, sBrk_u, stK_1, stK0_1, stK1_1, stK2_1, sSet_u, sAsg_u, sRet_u, sExp_u, sSeq_u, sIf_u, sFor_u, forD_c, fnD_u, gcFn_u, sSetIx_u, dAdd_i, dAdd_s, dAdd_t, dAdd_l, dSub_i, dCmp_i, dEq_s, dEq_i, dEq_b, dNe_s, dNe_i, dNe_b, dIx_t, dIx_l, dIx_c, dSlice_t, dSlice_l, dSlice_c, dSlice_s, bLen_t, bLen_l, bLen_s, bTup_t, bTup_l, blList_t, blList_l, bInt_i, bInt_t, bInt_f, bMin_i, dIsN_1, dIsN_2, seqL_l, seqL_c, dMod_i, dDiv_i, dMul_r, dMul_l, bLen_c, gc_same, pow12, dicS_d, dicO_1, keyO_s, keyO_i, dgK_1, dgK2_1, diK_1, diK2_f, diK2_t, valD_n, mergeD_n, mergeD_c, putD_n, ienK_1, ppNil_u, ppK_1, ppK2_1, ppK3_1, keysD_n, kdK_1, kdK2_1, ddK_1, ddK2_1, g2K_1, g2K1_1, g2K2_1, g2K3_1, g2K4_1, isDic_d, dpK_1, dpK1_1, dpK2_1, dpK3_1, dbK_1, dbK2_1, bdCopy_1, ddNew_u, dicS_r, dGet_u, dInK_u, valD_c, putD_c, iEnumD_u, ppCons_u, keysD_c, ddDisp_u, eGet2_u, sDput_u, ddCopy_u, List.map_cons, List.map_nil, List.length_cons, List.length_nil, List.cons_append, List.nil_append, List.append_nil, List.getElem?_cons_zero, List.getElem?_cons_succ, List.set_cons_zero, List.set_cons_succ, ofString_inj, ofString_beq, plug]⟩
  | f :: fs, p, z => by
    obtain ⟨z', h⟩ := plug_loop hk S d0 fs (f.w p) (some f.d)
    refine ⟨z', ?_⟩
    have e := wrapped_D hk f p S
    simp only [Fr.ds]
    rw [forD_c, gdName_u, forK2_1]
    simp only [List.set_cons_succ, List.set_cons_zero]
    have : (sSet 1 (eCall 2 (Fk k .wrapped) (aCons (eVar 2) (aCons (eVar 1) aNil)))) [some d0, some p.d, some f.d] S = some (.nx [some d0, some (f.w p).d, some f.d] S) := by simp [varK_1, eVar_u, eC_u, aNil_u, acK1_1, acK2_1, aCons_u, tupK_1, eTup_u, ldK_1, lDisp_u, eLK_1, eLMK_1, eL_u, eLM_u, eDiK_1, eDMK_1, eDi_u, eDM_u, opK1_1, opK2_1, opK3_1, eOp_u, negK_1, eNeg_u, slK1_1, slK2_1, slK3_1, slK4_1, ptSK_1, ptN_u, ptS_u, eSlice_u, callK_1, eCall_u, biK_1, blK_1, blK2_1, eBi_u, lBi_u, isiK_1, isiK2_1, eIsi_u, revK_1, revK2_1, lRev_u, andEK_1, andEK_2, orEK_1, orEK_2, notEK_1, orSK_1, ifEK_1, ifEK_2, tofK_1, eAnd_u, eOr_u, eNot_u, eOrS_u, eIf_u, tOf_u, chK1_1, chK2_1, chK3_1, chK3_2, eChain_u, tandK_1, tandK_2, torK_1, torK_2, tnotK_1, tTrue_u, tfAnd_u, tfOr_u, tfNot_u, lcK1_1, lcK2_1, lcK3_1, lcK3_2, lcK4_1, lcK5_1, lcD_n, lcD_c, aLc_u, wipeD_n, wipeD_c, gdName_u, gsK_1, gsNil_u, gdTup_u, gsCons_u, iseqK_1, iseqK2_1, itupK_1, istrK_1, irng1K_1, irng2K_1, seqP_1, seqP_2, iSeq_u, iTupD_u, iStrD_u, iRange1_u, iRange2_u, m1K_1, m1K2_1, m0K_1, s1K_1, eMeth1_u, eMeth0_u, eS1_u, setK_1, asgK_1, asgK2_1, retK_1, expK_1, seqK_1, seqK_2, seqK_3, ifK_1, ifK_2, forK_1, forD_n, forK2_1, forK3_1, forK3_2, forK3_3, fnK_1, fnK_2, gcK_1, sNext_u, sBrk_u, stK_1, stK0_1, stK1_1, stK2_1, sSet_u, sAsg_u, sRet_u, sExp_u, sSeq_u, sIf_u, sFor_u, forD_c, fnD_u, gcFn_u, sSetIx_u, dAdd_i, dAdd_s, dAdd_t, dAdd_l, dSub_i, dCmp_i, dEq_s, dEq_i, dEq_b, dNe_s, dNe_i, dNe_b, dIx_t, dIx_l, dIx_c, dSlice_t, dSlice_l, dSlice_c, dSlice_s, bLen_t, bLen_l, bLen_s, bTup_t, bTup_l, blList_t, blList_l, bInt_i, bInt_t, bInt_f, bMin_i, dIsN_1, dIsN_2, seqL_l, seqL_c, dMod_i, dDiv_i, dMul_r, dMul_l, bLen_c, gc_same, pow12, dicS_d, dicO_1, keyO_s, keyO_i, dgK_1, dgK2_1, diK_1, diK2_f, diK2_t, valD_n, mergeD_n, mergeD_c, putD_n, ienK_1, ppNil_u, ppK_1, ppK2_1, ppK3_1, keysD_n, kdK_1, kdK2_1, ddK_1, ddK2_1, g2K_1, g2K1_1, g2K2_1, g2K3_1, g2K4_1, isDic_d, dpK_1, dpK1_1, dpK2_1, dpK3_1, dbK_1, dbK2_1, bdCopy_1, ddNew_u, dicS_r, dGet_u, dInK_u, valD_c, putD_c, iEnumD_u, ppCons_u, keysD_c, ddDisp_u, eGet2_u, sDput_u, ddCopy_u, List.map_cons, List.map_nil, List.length_cons, List.length_nil, List.cons_append, List.nil_append, List.append_nil, List.getElem?_cons_zero, List.getElem?_cons_succ, List.set_cons_zero, List.set_cons_succ, ofString_inj, ofString_beq, e]
    rw [this, forK3_1, h]
    rfl
theorem plugged_D {k : Nat} (hk : 2 ≤ k) (fs : List Fr) (p : Pc) (S : List O) : Fk k .plugged [.tup (Fr.ds fs), p.d] S = some ((plug fs p).d, S) := by
  obtain ⟨k, rfl⟩ : ∃ j, k = j + 1 := ⟨k - 1, by omega⟩
  obtain ⟨z', h⟩ := plug_loop (k := k) (by omega) S (.tup (Fr.ds fs)) fs p none
  rw [Fk_s]
  simp [bodies, varK_1, eVar_u, eC_u, aNil_u, acK1_1, acK2_1, aCons_u, tupK_1, eTup_u, ldK_1, lDisp_u, eLK_1, eLMK_1, eL_u, eLM_u, eDiK_1, eDMK_1, eDi_u, eDM_u, opK1_1, opK2_1, opK3_1, eOp_u, negK_1, eNeg_u, slK1_1, slK2_1, slK3_1, slK4_1, ptSK_1, ptN_u, ptS_u, eSlice_u, callK_1, eCall_u, biK_1, blK_1, blK2_1, eBi_u, lBi_u, isiK_1, isiK2_1, eIsi_u, revK_1, revK2_1, lRev_u, andEK_1, andEK_2, orEK_1, orEK_2, notEK_1, orSK_1, ifEK_1, ifEK_2, tofK_1, eAnd_u, eOr_u, eNot_u, eOrS_u, eIf_u, tOf_u, chK1_1, chK2_1, chK3_1, chK3_2, eChain_u, tandK_1, tandK_2, torK_1, torK_2, tnotK_1, tTrue_u, tfAnd_u, tfOr_u, tfNot_u, lcK1_1, lcK2_1, lcK3_1, lcK3_2, lcK4_1, lcK5_1, lcD_n, lcD_c, aLc_u, wipeD_n, wipeD_c, gdName_u, gsK_1, gsNil_u, gdTup_u, gsCons_u, iseqK_1, iseqK2_1, itupK_1, istrK_1, irng1K_1, irng2K_1, seqP_1, seqP_2, iSeq_u, iTupD_u, iStrD_u, iRange1_u, iRange2_u, m1K_1, m1K2_1, m0K_1, s1K_1, eMeth1_u, eMeth0_u, eS1_u, setK_1, asgK_1, asgK2_1, retK_1, expK_1, seqK_1, seqK_2, seqK_3, ifK_1, ifK_2, forK_1, forD_n, forK2_1, forK3_1, forK3_2, forK3_3, fnK_1, fnK_2, gcK_1, sNext_u, sBrk_u, stK_1, stK0_1, stK1_1, stK2_1, sSet_u, sAsg_u, sRet_u, sExp_u, sSeq_u, sIf_u, sFor_u, forD_c, fnD_u, gcFn_u, sSetIx_u, dAdd_i, dAdd_s, dAdd_t, dAdd_l, dSub_i, dCmp_i, dEq_s, dEq_i, dEq_b, dNe_s, dNe_i, dNe_b, dIx_t, dIx_l, dIx_c, dSlice_t, dSlice_l, dSlice_c, dSlice_s, bLen_t, bLen_l, bLen_s, bTup_t, bTup_l, blList_t, blList_l, bInt_i, bInt_t, bInt_f, bMin_i, dIsN_1, dIsN_2, seqL_l, seqL_c, dMod_i, dDiv_i, dMul_r, dMul_l, bLen_c, gc_same, pow12, dicS_d, dicO_1, keyO_s, keyO_i, dgK_1, dgK2_1, diK_1, diK2_f, diK2_t, valD_n, mergeD_n, mergeD_c, putD_n, ienK_1, ppNil_u, ppK_1, ppK2_1, ppK3_1, keysD_n, kdK_1, kdK2_1, ddK_1, ddK2_1, g2K_1, g2K1_1, g2K2_1, g2K3_1, g2K4_1, isDic_d, dpK_1, dpK1_1, dpK2_1, dpK3_1, dbK_1, dbK2_1, bdCopy_1, ddNew_u, dicS_r, dGet_u, dInK_u, valD_c, putD_c, iEnumD_u, ppCons_u, keysD_c, ddDisp_u, eGet2_u, sDput_u, ddCopy_u, List.map_cons, List.map_nil, List.length_cons, List.length_nil, List.cons_append, List.nil_append, List.append_nil, List.getElem?_cons_zero, List.getElem?_cons_succ, List.set_cons_zero, List.set_cons_succ, ofString_inj, ofString_beq, h]
def rixD : Option Nat → D
  | none => .non
  | some n => .int n
theorem round_loop {k : Nat} (S : List O) (d0 : D) : ∀ (fs : List Fr) (i : Nat) (z1 z2 : Option D), (rix fs = none ∧ ∃ z, forD (gdTup 2 (gsCons (gdName 1) (gsCons (gdName 2) gsNil))) (sIf (tOf (eOp (dEq 64) (eOp dIx (eVar 2) (eC (.int 0))) (eC (.str "round")))) (sRet (eVar 1)) sNext) (enumD i (Fr.ds fs)) [some d0, z1, z2] S = some (.nx z S)) ∨
    ∃ n, rix fs = some n ∧ forD (gdTup 2 (gsCons (gdName 1) (gsCons (gdName 2) gsNil))) (sIf (tOf (eOp (dEq 64) (eOp dIx (eVar 2) (eC (.int 0))) (eC (.str "round")))) (sRet (eVar 1)) sNext) (enumD i (Fr.ds fs)) [some d0, z1, z2] S = some (.rt (.int ((i + n : Nat) : Int)) S)
  | [], i, z1, z2 => .inl ⟨rfl, _, by simp [Fr.ds, enumD, varK_1, eVar_u, eC_u, aNil_u, acK1_1, acK2_1, aCons_u, tupK_1, eTup_u, ldK_1, lDisp_u, eLK_1, eLMK_1, eL_u, eLM_u, eDiK_1, eDMK_1, eDi_u, eDM_u, opK1_1, opK2_1, opK3_1, eOp_u, negK_1, eNeg_u, slK1_1, slK2_1, slK3_1, slK4_1, ptSK_1, ptN_u, ptS_u, eSlice_u, callK_1, eCall_u, biK_1, blK_1, blK2_1, eBi_u, lBi_u, isiK_1, isiK2_1, eIsi_u, revK_1, revK2_1, lRev_u, andEK_1, andEK_2, orEK_1, orEK_2, notEK_1, orSK_1, ifEK_1, ifEK_2, tofK_1, eAnd_u, eOr_u, eNot_u, eOrS_u, eIf_u, tOf_u, chK1_1, chK2_1, chK3_1, chK3_2, eChain_u, tandK_1, tandK_2, torK_1, torK_2, tnotK_1, tTrue_u, tfAnd_u, tfOr_u, tfNot_u, lcK1_1, lcK2_1, lcK3_1, lcK3_2, lcK4_1, lcK5_1, lcD_n, lcD_c, aLc_u, wipeD_n, wipeD_c, gdName_u, gsK_1, gsNil_u, gdTup_u, gsCons_u, iseqK_1, iseqK2_1, itupK_1, istrK_1, irng1K_1, irng2K_1, seqP_1, seqP_2, iSeq_u, iTupD_u, iStrD_u, iRange1_u, iRange2_u, m1K_1, m1K2_1, m0K_1, s1K_1, eMeth1_u, eMeth0_u, eS1_u, setK_1, asgK_1, asgK2_1, retK_1, expK_1, seqK_1, seqK_2, seqK_3, ifK_1, ifK_2, forK_1, forD_n, forK2_1, forK3_1, forK3_2, forK3_3, fnK_1, fnK_2, gcK_1, sNext_u, sBrk_u, stK_1, stK0_1, stK1_1, stK2_1, sSet_u, sAsg_u, sRet_u, sExp_u, sSeq_u, sIf_u, sFor_u, forD_c, fnD_u, gcFn_u, sSetIx_u, dAdd_i, dAdd_s, dAdd_t, dAdd_l, dSub_i, dCmp_i, dEq_s, dEq_i, dEq_b, dNe_s, dNe_i, dNe_b, dIx_t, dIx_l, dIx_c, dSlice_t, dSlice_l, dSlice_c, dSlice_s, bLen_t, bLen_l, bLen_s, bTup_t, bTup_l, blList_t, blList_l, bInt_i, bInt_t, bInt_f, bMin_i, dIsN_1, dIsN_2, seqL_l, seqL_c, dMod_i, dDiv_i, dMul_r, dMul_l, bLen_c, gc_same, pow12, dicS_d, dicO_1, keyO_s, keyO_i, dgK_1, dgK2_1, diK_1, diK2_f, diK2_t, valD_n, mergeD_n, mergeD_c, putD_n, ienK_1, ppNil_u, ppK_1, ppK2_1, ppK3_1, keysD_n, kdK_1, kdK2_1, ddK_1, ddK2_1, g2K_1, g2K1_1, g2K2_1, g2K3_1, g2K4_1, isDic_d, dpK_1, dpK1_1, dpK2_1, dpK3_1, dbK_1, dbK2_1, bdCopy_1, ddNew_u, dicS_r, dGet_u, dInK_u, valD_c, putD_c, iEnumD_u, ppCons_u, keysD_c, ddDisp_u, eGet2_u, sDput_u, ddCopy_u, List.map_cons, List.map_nil, List.length_cons, List.length_nil, List.cons_append, List.nil_append, List.append_nil, List.getElem?_cons_zero, List.getElem?_cons_succ, List.set_cons_zero, List.set_cons_succ, ofString_inj, ofString_beq]; rfl⟩
  | f :: fs, i, z1, z2 => by
    have ih := round_loop (k := k) S d0 fs (i + 1) (some (.int i)) (some f.d)
    cases f with
    | rnd => exact .inr ⟨0, rfl, by simp [Fr.ds, enumD, varK_1, eVar_u, eC_u, aNil_u, acK1_1, acK2_1, aCons_u, tupK_1, eTup_u, ldK_1, lDisp_u, eLK_1, eLMK_1, eL_u, eLM_u, eDiK_1, eDMK_1, eDi_u, eDM_u, opK1_1, opK2_1, opK3_1, eOp_u, negK_1, eNeg_u, slK1_1, slK2_1, slK3_1, slK4_1, ptSK_1, ptN_u, ptS_u, eSlice_u, callK_1, eCall_u, biK_1, blK_1, blK2_1, eBi_u, lBi_u, isiK_1, isiK2_1, eIsi_u, revK_1, revK2_1, lRev_u, andEK_1, andEK_2, orEK_1, orEK_2, notEK_1, orSK_1, ifEK_1, ifEK_2, tofK_1, eAnd_u, eOr_u, eNot_u, eOrS_u, eIf_u, tOf_u, chK1_1, chK2_1, chK3_1, chK3_2, eChain_u, tandK_1, tandK_2, torK_1, torK_2, tnotK_1, tTrue_u, tfAnd_u, tfOr_u, tfNot_u, lcK1_1, lcK2_1, lcK3_1, lcK3_2, lcK4_1, lcK5_1, lcD_n, lcD_c, aLc_u, wipeD_n, wipeD_c, gdName_u, gsK_1, gsNil_u, gdTup_u, gsCons_u, iseqK_1, iseqK2_1, itupK_1, istrK_1, irng1K_1, irng2K_1, seqP_1, seqP_2, iSeq_u, iTupD_u, iStrD_u, iRange1_u, iRange2_u, m1K_1, m1K2_1, m0K_1, s1K_1, eMeth1_u, eMeth0_u, eS1_u, setK_1, asgK_1, asgK2_1, retK_1, expK_1, seqK_1, seqK_2, seqK_3, ifK_1, ifK_2, forK_1, forD_n, forK2_1, forK3_1, forK3_2, forK3_3, fnK_1, fnK_2, gcK_1, sNext_u, sBrk_u, stK_1, stK0_1, stK1_1, stK2_1, sSet_u, sAsg_u, sRet_u, sExp_u, sSeq_u, sIf_u, sFor_u, forD_c, fnD_u, gcFn_u, sSetIx_u, dAdd_i, dAdd_s, dAdd_t, dAdd_l, dSub_i, dCmp_i, dEq_s, dEq_i, dEq_b, dNe_s, dNe_i, dNe_b, dIx_t, dIx_l, dIx_c, dSlice_t, dSlice_l, dSlice_c, dSlice_s, bLen_t, bLen_l, bLen_s, bTup_t, bTup_l, blList_t, blList_l, bInt_i, bInt_t, bInt_f, bMin_i, dIsN_1, dIsN_2, seqL_l, seqL_c, dMod_i, dDiv_i, dMul_r, dMul_l, bLen_c, gc_same, pow12, dicS_d, dicO_1, keyO_s, keyO_i, dgK_1, dgK2_1, diK_1, diK2_f, diK2_t, valD_n, mergeD_n, mergeD_c, putD_n, ienK_1, ppNil_u, ppK_1, ppK2_1, ppK3_1, keysD_n, kdK_1, kdK2_1, ddK_1, ddK2_1, g2K_1, g2K1_1, g2K2_1, g2K3_1, g2K4_1, isDic_d, dpK_1, dpK1_1, dpK2_1, dpK3_1, dbK_1, dbK2_1, bdCopy_1, ddNew_u, dicS_r, dGet_u, dInK_u, valD_c, putD_c, iEnumD_u, ppCons_u, keysD_c, ddDisp_u, eGet2_u, sDput_u, ddCopy_u, List.map_cons, List.map_nil, List.length_cons, List.length_nil, List.cons_append, List.nil_append, List.append_nil, List.getElem?_cons_zero, List.getElem?_cons_succ, List.set_cons_zero, List.set_cons_succ, ofString_inj, ofString_beq, Fr.d, atI, ixN, gdTup, gsCons, gsNil, gdName]⟩
    | _ =>
      simp only [rix]
      rcases ih with ⟨h1, z, h2⟩ | ⟨n, h1, h2⟩
      · refine .inl ⟨by simp [h1], z, ?_⟩
        simp only [Fr.d] at h2
        simp [Fr.ds, enumD, varK_1, eVar_u, eC_u, aNil_u, acK1_1, acK2_1, aCons_u, tupK_1, eTup_u, ldK_1, lDisp_u, eLK_1, eLMK_1, eL_u, eLM_u, eDiK_1, eDMK_1, eDi_u, eDM_u, opK1_1, opK2_1, opK3_1, eOp_u, negK_1, eNeg_u, slK1_1, slK2_1, slK3_1, slK4_1, ptSK_1, ptN_u, ptS_u, eSlice_u, callK_1, eCall_u, biK_1, blK_1, blK2_1, eBi_u, lBi_u, isiK_1, isiK2_1, eIsi_u, revK_1, revK2_1, lRev_u, andEK_1, andEK_2, orEK_1, orEK_2, notEK_1, orSK_1, ifEK_1, ifEK_2, tofK_1, eAnd_u, eOr_u, eNot_u, eOrS_u, eIf_u, tOf_u, chK1_1, chK2_1, chK3_1, chK3_2, eChain_u, tandK_1, tandK_2, torK_1, torK_2, tnotK_1, tTrue_u, tfAnd_u, tfOr_u, tfNot_u, lcK1_1, lcK2_1, lcK3_1, lcK3_2, lcK4_1, lcK5_1, lcD_n, lcD_c, aLc_u, wipeD_n, wipeD_c, gdName_u, gsK_1, gsNil_u, gdTup_u, gsCons_u, iseqK_1, iseqK2_1, itupK_1, istrK_1, irng1K_1, irng2K_1, seqP_1, seqP_2, iSeq_u, iTupD_u, iStrD_u, iRange1_u, iRange2_u, m1K_1, m1K2_1, m0K_1, s1K_1, eMeth1_u, eMeth0_u, eS1_u, setK_1, asgK_1, asgK2_1, retK_1, expK_1, seqK_1, seqK_2, seqK_3, ifK_1, ifK_2, forK_1, forD_n, forK2_1, forK3_1, forK3_2, forK3_3, fnK_1, fnK_2, gcK_1, sNext_u, sBrk_u, stK_1, stK0_1, stK1_1, stK2_1, sSet_u, sAsg_u, sRet_u, sExp_u, sSeq_u, sIf_u, sFor_u, forD_c, fnD_u, gcFn_u, sSetIx_u, dAdd_i, dAdd_s, dAdd_t, dAdd_l, dSub_i, dCmp_i, dEq_s, dEq_i, dEq_b, dNe_s, dNe_i, dNe_b, dIx_t, dIx_l, dIx_c, dSlice_t, dSlice_l, dSlice_c, dSlice_s, bLen_t, bLen_l, bLen_s, bTup_t, bTup_l, blList_t, blList_l, bInt_i, bInt_t, bInt_f, bMin_i, dIsN_1, dIsN_2, seqL_l, seqL_c, dMod_i, dDiv_i, dMul_r, dMul_l, bLen_c, gc_same, pow12, dicS_d, dicO_1, keyO_s, keyO_i, dgK_1, dgK2_1, diK_1, diK2_f, diK2_t, valD_n, mergeD_n, mergeD_c, putD_n, ienK_1, ppNil_u, ppK_1, ppK2_1, ppK3_1, keysD_n, kdK_1, kdK2_1, ddK_1, ddK2_1, g2K_1, g2K1_1, g2K2_1, g2K3_1, g2K4_1, isDic_d, dpK_1, dpK1_1, dpK2_1, dpK3_1, dbK_1, dbK2_1, bdCopy_1, ddNew_u, dicS_r, dGet_u, dInK_u, valD_c, putD_c, iEnumD_u, ppCons_u, keysD_c, ddDisp_u, eGet2_u, sDput_u, ddCopy_u, List.map_cons, List.map_nil, List.length_cons, List.length_nil, List.cons_append, List.nil_append, List.append_nil, List.getElem?_cons_zero, List.getElem?_cons_succ, List.set_cons_zero, List.set_cons_succ, ofString_inj, ofString_beq, Fr.d, atI, ixN, gdTup, gsCons, gsNil, gdName, h2]
      · refine .inr ⟨n + 1, by simp [h1], ?_⟩
        simp only [Fr.d] at h2
        simp [Fr.ds, enumD, varK_1, eVar_u, eC_u, aNil_u, acK1_1, acK2_1, aCons_u, tupK_1, eTup_u, ldK_1, lDisp_u, eLK_1, eLMK_1, eL_u, eLM_u, eDiK_1, eDMK_1, eDi_u, eDM_u, opK1_1, opK2_1, opK3_1, eOp_u, negK_1, eNeg_u, slK1_1, slK2_1, slK3_1, slK4_1, ptSK_1, ptN_u, ptS_u, eSlice_u, callK_1, eCall_u, biK_1, blK_1, blK2_1, eBi_u, lBi_u, isiK_1, isiK2_1, eIsi_u, revK_1, revK2_1, lRev_u, andEK_1, andEK_2, orEK_1, orEK_2, notEK_1, orSK_1, ifEK_1, ifEK_2, tofK_1, eAnd_u, eOr_u, eNot_u, eOrS_u, eIf_u, tOf_u, chK1_1, chK2_1, chK3_1, chK3_2, eChain_u, tandK_1, tandK_2, torK_1, torK_2, tnotK_1, tTrue_u, tfAnd_u, tfOr_u, tfNot_u, lcK1_1, lcK2_1, lcK3_1, lcK3_2, lcK4_1, lcK5_1, lcD_n, lcD_c, aLc_u, wipeD_n, wipeD_c, gdName_u, gsK_1, gsNil_u, gdTup_u, gsCons_u, iseqK_1, iseqK2_1, itupK_1, istrK_1, irng1K_1, irng2K_1, seqP_1, seqP_2, iSeq_u, iTupD_u, iStrD_u, iRange1_u, iRange2_u, m1K_1, m1K2_1, m0K_1, s1K_1, eMeth1_u, eMeth0_u, eS1_u, setK_1, asgK_1, asgK2_1, retK_1, expK_1, seqK_1, seqK_2, seqK_3, ifK_1, ifK_2, forK_1, forD_n, forK2_1, forK3_1, forK3_2, forK3_3, fnK_1, fnK_2, gcK_1, sNext_u, sBrk_u, stK_1, stK0_1, stK1_1, stK2_1, sSet_u, sAsg_u, sRet_u, sExp_u, sSeq_u, sIf_u, sFor_u, forD_c, fnD_u, gcFn_u, sSetIx_u, dAdd_i, dAdd_s, dAdd_t, dAdd_l, dSub_i, dCmp_i, dEq_s, dEq_i, dEq_b, dNe_s, dNe_i, dNe_b, dIx_t, dIx_l, dIx_c, dSlice_t, dSlice_l, dSlice_c, dSlice_s, bLen_t, bLen_l, bLen_s, bTup_t, bTup_l, blList_t, blList_l, bInt_i, bInt_t, bInt_f, bMin_i, dIsN_1, dIsN_2, seqL_l, seqL_c, dMod_i, dDiv_i, dMul_r, dMul_l, bLen_c, gc_same, pow12, dicS_d, dicO_1, keyO_s, keyO_i, dgK_1, dgK2_1, diK_1, diK2_f, diK2_t, valD_n, mergeD_n, mergeD_c, putD_n, ienK_1, ppNil_u, ppK_1, ppK2_1, ppK3_1, keysD_n, kdK_1, kdK2_1, ddK_1, ddK2_1, g2K_1, g2K1_1, g2K2_1, g2K3_1, g2K4_1, isDic_d, dpK_1, dpK1_1, dpK2_1, dpK3_1, dbK_1, dbK2_1, bdCopy_1, ddNew_u, dicS_r, dGet_u, dInK_u, valD_c, putD_c, iEnumD_u, ppCons_u, keysD_c, ddDisp_u, eGet2_u, sDput_u, ddCopy_u, List.map_cons, List.map_nil, List.length_cons, List.length_nil, List.cons_append, List.nil_append, List.append_nil, List.getElem?_cons_zero, List.getElem?_cons_succ, List.set_cons_zero, List.set_cons_succ, ofString_inj, ofString_beq, Fr.d, atI, ixN, gdTup, gsCons, gsNil, gdName, h2]
        omega
theorem to_round_D {k : Nat} (hk : 1 ≤ k) (fs : List Fr) (S : List O) : Fk k .to_round [.tup (Fr.ds fs)] S = some (rixD (rix fs), S) := by
  obtain ⟨k, rfl⟩ : ∃ j, k = j + 1 := ⟨k - 1, by omega⟩
  rw [Fk_s]
  rcases round_loop (k := k) S (.tup (Fr.ds fs)) fs 0 none none with ⟨h1, z, h2⟩ | ⟨n, h1, h2⟩
  · simp [bodies, varK_1, eVar_u, eC_u, aNil_u, acK1_1, acK2_1, aCons_u, tupK_1, eTup_u, ldK_1, lDisp_u, eLK_1, eLMK_1, eL_u, eLM_u, eDiK_1, eDMK_1, eDi_u, eDM_u, opK1_1, opK2_1, opK3_1, eOp_u, negK_1, eNeg_u, slK1_1, slK2_1, slK3_1, slK4_1, ptSK_1, ptN_u, ptS_u, eSlice_u, callK_1, eCall_u, biK_1, blK_1, blK2_1, eBi_u, lBi_u, isiK_1, isiK2_1, eIsi_u, revK_1, revK2_1, lRev_u, andEK_1, andEK_2, orEK_1, orEK_2, notEK_1, orSK_1, ifEK_1, ifEK_2, tofK_1, eAnd_u, eOr_u, eNot_u, eOrS_u, eIf_u, tOf_u, chK1_1, chK2_1, chK3_1, chK3_2, eChain_u, tandK_1, tandK_2, torK_1, torK_2, tnotK_1, tTrue_u, tfAnd_u, tfOr_u, tfNot_u, lcK1_1, lcK2_1, lcK3_1, lcK3_2, lcK4_1, lcK5_1, lcD_n, lcD_c, aLc_u, wipeD_n, wipeD_c, gdName_u, gsK_1, gsNil_u, gdTup_u, gsCons_u, iseqK_1, iseqK2_1, itupK_1, istrK_1, irng1K_1, irng2K_1, seqP_1, seqP_2, iSeq_u, iTupD_u, iStrD_u, iRange1_u, iRange2_u, m1K_1, m1K2_1, m0K_1, s1K_1, eMeth1_u, eMeth0_u, eS1_u, setK_1, asgK_1, asgK2_1, retK_1, expK_1, seqK_1, seqK_2, seqK_3, ifK_1, ifK_2, forK_1, forD_n, forK2_1, forK3_1, forK3_2, forK3_3, fnK_1, fnK_2, gcK_1, sNext_u, sBrk_u, stK_1, stK0_1, stK1_1, stK2_1, sSet_u, sAsg_u, sRet_u, sExp_u, sSeq_u, sIf_u, sFor_u, forD_c, fnD_u, gcFn_u, sSetIx_u, dAdd_i, dAdd_s, dAdd_t, dAdd_l, dSub_i, dCmp_i, dEq_s, dEq_i, dEq_b, dNe_s, dNe_i, dNe_b, dIx_t, dIx_l, dIx_c, dSlice_t, dSlice_l, dSlice_c, dSlice_s, bLen_t, bLen_l, bLen_s, bTup_t, bTup_l, blList_t, blList_l, bInt_i, bInt_t, bInt_f, bMin_i, dIsN_1, dIsN_2, seqL_l, seqL_c, dMod_i, dDiv_i, dMul_r, dMul_l, bLen_c, gc_same, pow12, dicS_d, dicO_1, keyO_s, keyO_i, dgK_1, dgK2_1, diK_1, diK2_f, diK2_t, valD_n, mergeD_n, mergeD_c, putD_n, ienK_1, ppNil_u, ppK_1, ppK2_1, ppK3_1, keysD_n, kdK_1, kdK2_1, ddK_1, ddK2_1, g2K_1, g2K1_1, g2K2_1, g2K3_1, g2K4_1, isDic_d, dpK_1, dpK1_1, dpK2_1, dpK3_1, dbK_1, dbK2_1, bdCopy_1, ddNew_u, dicS_r, dGet_u, dInK_u, valD_c, putD_c, iEnumD_u, ppCons_u, keysD_c, ddDisp_u, eGet2_u, sDput_u, ddCopy_u, List.map_cons, List.map_nil, List.length_cons, List.length_nil, List.cons_append, List.nil_append, List.append_nil, List.getElem?_cons_zero, List.getElem?_cons_succ, List.set_cons_zero, List.set_cons_succ, ofString_inj, ofString_beq, h1, h2, rixD]
  · simp only [Nat.zero_add] at h2
    simp [bodies, varK_1, eVar_u, eC_u, aNil_u, acK1_1, acK2_1, aCons_u, tupK_1, eTup_u, ldK_1, lDisp_u, eLK_1, eLMK_1, eL_u, eLM_u, eDiK_1, eDMK_1, eDi_u, eDM_u, opK1_1, opK2_1, opK3_1, eOp_u, negK_1, eNeg_u, slK1_1, slK2_1, slK3_1, slK4_1, ptSK_1, ptN_u, ptS_u, eSlice_u, callK_1, eCall_u, biK_1, blK_1, blK2_1, eBi_u, lBi_u, isiK_1, isiK2_1, eIsi_u, revK_1, revK2_1, lRev_u, andEK_1, andEK_2, orEK_1, orEK_2, notEK_1, orSK_1, ifEK_1, ifEK_2, tofK_1, eAnd_u, eOr_u, eNot_u, eOrS_u, eIf_u, tOf_u, chK1_1, chK2_1, chK3_1, chK3_2, eChain_u, tandK_1, tandK_2, torK_1, torK_2, tnotK_1, tTrue_u, tfAnd_u, tfOr_u, tfNot_u, lcK1_1, lcK2_1, lcK3_1, lcK3_2, lcK4_1, lcK5_1, lcD_n, lcD_c, aLc_u, wipeD_n, wipeD_c, gdName_u, gsK_1, gsNil_u, gdTup_u, gsCons_u, iseqK_1, iseqK2_1, itupK_1, istrK_1, irng1K_1, irng2K_1, seqP_1, seqP_2, iSeq_u, iTupD_u, iStrD_u, iRange1_u, iRange2_u, m1K_1, m1K2_1, m0K_1, s1K_1, eMeth1_u, eMeth0_u, eS1_u, setK_1, asgK_1, asgK2_1, retK_1, expK_1, seqK_1, seqK_2, seqK_3, ifK_1, ifK_2, forK_1, forD_n, forK2_1, forK3_1, forK3_2, forK3_3, fnK_1, fnK_2, gcK_1, sNext_u, sBrk_u, stK_1, stK0_1, stK1_1, stK2_1, sSet_u, sAsg_u, sRet_u, sExp_u, sSeq_u, sIf_u, sFor_u, forD_c, fnD_u, gcFn_u, sSetIx_u, dAdd_i, dAdd_s, dAdd_t, dAdd_l, dSub_i, dCmp_i, dEq_s, dEq_i, dEq_b, dNe_s, dNe_i, dNe_b, dIx_t, dIx_l, dIx_c, dSlice_t, dSlice_l, dSlice_c, dSlice_s, bLen_t, bLen_l, bLen_s, bTup_t, bTup_l, blList_t, blList_l, bInt_i, bInt_t, bInt_f, bMin_i, dIsN_1, dIsN_2, seqL_l, seqL_c, dMod_i, dDiv_i, dMul_r, dMul_l, bLen_c, gc_same, pow12, dicS_d, dicO_1, keyO_s, keyO_i, dgK_1, dgK2_1, diK_1, diK2_f, diK2_t, valD_n, mergeD_n, mergeD_c, putD_n, ienK_1, ppNil_u, ppK_1, ppK2_1, ppK3_1, keysD_n, kdK_1, kdK2_1, ddK_1, ddK2_1, g2K_1, g2K1_1, g2K2_1, g2K3_1, g2K4_1, isDic_d, dpK_1, dpK1_1, dpK2_1, dpK3_1, dbK_1, dbK2_1, bdCopy_1, ddNew_u, dicS_r, dGet_u, dInK_u, valD_c, putD_c, iEnumD_u, ppCons_u, keysD_c, ddDisp_u, eGet2_u, sDput_u, ddCopy_u, List.map_cons, List.map_nil, List.length_cons, List.length_nil, List.cons_append, List.nil_append, List.append_nil, List.getElem?_cons_zero, List.getElem?_cons_succ, List.set_cons_zero, List.set_cons_succ, ofString_inj, ofString_beq, h1, h2, rixD]
theorem drop1 (a : D) (r : List D) : cutD (a :: r) (some 1) none = r := by simp [cutD, HT.sIx]
/-- how deep a body stands that is put into -/
def bdc : Pc → Nat
  | .call _ (.shut _ _ b) _ => cd b
  | .take _ _ b => cd b
  | _ => 0
def wd : Pc → Str
  | .num _ => "num" | .name _ => "name" | .fn .. => "fun" | .call .. => "call" | .plus .. => "plus" | .pick .. => "pick" | .rnd _ => "round" | .take .. => "take" | .shut .. => "shut" | .kept .. => "kept"
def becD : Option Pc → D
  | none => .non
  | some q => q.d
theorem called_D {k : Nat} (a : Int) (f g : Pc) (S : List O) (hf : f.isV = true) (hb : bdc (.call a f g) + 2 ≤ k) (h3 : 3 ≤ k) : Fk k .called [(Pc.call a f g).d] S = some (becD (becomes (.call a f g)), S) := by
  obtain ⟨k, rfl⟩ : ∃ j, k = j + 1 := ⟨k - 1, by omega⟩
  rw [Fk_s]
  cases f with
  | num n => simp [bodies, varK_1, eVar_u, eC_u, aNil_u, acK1_1, acK2_1, aCons_u, tupK_1, eTup_u, ldK_1, lDisp_u, eLK_1, eLMK_1, eL_u, eLM_u, eDiK_1, eDMK_1, eDi_u, eDM_u, opK1_1, opK2_1, opK3_1, eOp_u, negK_1, eNeg_u, slK1_1, slK2_1, slK3_1, slK4_1, ptSK_1, ptN_u, ptS_u, eSlice_u, callK_1, eCall_u, biK_1, blK_1, blK2_1, eBi_u, lBi_u, isiK_1, isiK2_1, eIsi_u, revK_1, revK2_1, lRev_u, andEK_1, andEK_2, orEK_1, orEK_2, notEK_1, orSK_1, ifEK_1, ifEK_2, tofK_1, eAnd_u, eOr_u, eNot_u, eOrS_u, eIf_u, tOf_u, chK1_1, chK2_1, chK3_1, chK3_2, eChain_u, tandK_1, tandK_2, torK_1, torK_2, tnotK_1, tTrue_u, tfAnd_u, tfOr_u, tfNot_u, lcK1_1, lcK2_1, lcK3_1, lcK3_2, lcK4_1, lcK5_1, lcD_n, lcD_c, aLc_u, wipeD_n, wipeD_c, gdName_u, gsK_1, gsNil_u, gdTup_u, gsCons_u, iseqK_1, iseqK2_1, itupK_1, istrK_1, irng1K_1, irng2K_1, seqP_1, seqP_2, iSeq_u, iTupD_u, iStrD_u, iRange1_u, iRange2_u, m1K_1, m1K2_1, m0K_1, s1K_1, eMeth1_u, eMeth0_u, eS1_u, setK_1, asgK_1, asgK2_1, retK_1, expK_1, seqK_1, seqK_2, seqK_3, ifK_1, ifK_2, forK_1, forD_n, forK2_1, forK3_1, forK3_2, forK3_3, fnK_1, fnK_2, gcK_1, sNext_u, sBrk_u, stK_1, stK0_1, stK1_1, stK2_1, sSet_u, sAsg_u, sRet_u, sExp_u, sSeq_u, sIf_u, sFor_u, forD_c, fnD_u, gcFn_u, sSetIx_u, dAdd_i, dAdd_s, dAdd_t, dAdd_l, dSub_i, dCmp_i, dEq_s, dEq_i, dEq_b, dNe_s, dNe_i, dNe_b, dIx_t, dIx_l, dIx_c, dSlice_t, dSlice_l, dSlice_c, dSlice_s, bLen_t, bLen_l, bLen_s, bTup_t, bTup_l, blList_t, blList_l, bInt_i, bInt_t, bInt_f, bMin_i, dIsN_1, dIsN_2, seqL_l, seqL_c, dMod_i, dDiv_i, dMul_r, dMul_l, bLen_c, gc_same, pow12, dicS_d, dicO_1, keyO_s, keyO_i, dgK_1, dgK2_1, diK_1, diK2_f, diK2_t, valD_n, mergeD_n, mergeD_c, putD_n, ienK_1, ppNil_u, ppK_1, ppK2_1, ppK3_1, keysD_n, kdK_1, kdK2_1, ddK_1, ddK2_1, g2K_1, g2K1_1, g2K2_1, g2K3_1, g2K4_1, isDic_d, dpK_1, dpK1_1, dpK2_1, dpK3_1, dbK_1, dbK2_1, bdCopy_1, ddNew_u, dicS_r, dGet_u, dInK_u, valD_c, putD_c, iEnumD_u, ppCons_u, keysD_c, ddDisp_u, eGet2_u, sDput_u, ddCopy_u, List.map_cons, List.map_nil, List.length_cons, List.length_nil, List.cons_append, List.nil_append, List.append_nil, List.getElem?_cons_zero, List.getElem?_cons_succ, List.set_cons_zero, List.set_cons_succ, ofString_inj, ofString_beq, Pc.d, atI, ixN, becomes, becD]
  | shut b x c =>
    have e := put_in_D x g c k S (by simp only [bdc] at hb; omega)
    simp [bodies, varK_1, eVar_u, eC_u, aNil_u, acK1_1, acK2_1, aCons_u, tupK_1, eTup_u, ldK_1, lDisp_u, eLK_1, eLMK_1, eL_u, eLM_u, eDiK_1, eDMK_1, eDi_u, eDM_u, opK1_1, opK2_1, opK3_1, eOp_u, negK_1, eNeg_u, slK1_1, slK2_1, slK3_1, slK4_1, ptSK_1, ptN_u, ptS_u, eSlice_u, callK_1, eCall_u, biK_1, blK_1, blK2_1, eBi_u, lBi_u, isiK_1, isiK2_1, eIsi_u, revK_1, revK2_1, lRev_u, andEK_1, andEK_2, orEK_1, orEK_2, notEK_1, orSK_1, ifEK_1, ifEK_2, tofK_1, eAnd_u, eOr_u, eNot_u, eOrS_u, eIf_u, tOf_u, chK1_1, chK2_1, chK3_1, chK3_2, eChain_u, tandK_1, tandK_2, torK_1, torK_2, tnotK_1, tTrue_u, tfAnd_u, tfOr_u, tfNot_u, lcK1_1, lcK2_1, lcK3_1, lcK3_2, lcK4_1, lcK5_1, lcD_n, lcD_c, aLc_u, wipeD_n, wipeD_c, gdName_u, gsK_1, gsNil_u, gdTup_u, gsCons_u, iseqK_1, iseqK2_1, itupK_1, istrK_1, irng1K_1, irng2K_1, seqP_1, seqP_2, iSeq_u, iTupD_u, iStrD_u, iRange1_u, iRange2_u, m1K_1, m1K2_1, m0K_1, s1K_1, eMeth1_u, eMeth0_u, eS1_u, setK_1, asgK_1, asgK2_1, retK_1, expK_1, seqK_1, seqK_2, seqK_3, ifK_1, ifK_2, forK_1, forD_n, forK2_1, forK3_1, forK3_2, forK3_3, fnK_1, fnK_2, gcK_1, sNext_u, sBrk_u, stK_1, stK0_1, stK1_1, stK2_1, sSet_u, sAsg_u, sRet_u, sExp_u, sSeq_u, sIf_u, sFor_u, forD_c, fnD_u, gcFn_u, sSetIx_u, dAdd_i, dAdd_s, dAdd_t, dAdd_l, dSub_i, dCmp_i, dEq_s, dEq_i, dEq_b, dNe_s, dNe_i, dNe_b, dIx_t, dIx_l, dIx_c, dSlice_t, dSlice_l, dSlice_c, dSlice_s, bLen_t, bLen_l, bLen_s, bTup_t, bTup_l, blList_t, blList_l, bInt_i, bInt_t, bInt_f, bMin_i, dIsN_1, dIsN_2, seqL_l, seqL_c, dMod_i, dDiv_i, dMul_r, dMul_l, bLen_c, gc_same, pow12, dicS_d, dicO_1, keyO_s, keyO_i, dgK_1, dgK2_1, diK_1, diK2_f, diK2_t, valD_n, mergeD_n, mergeD_c, putD_n, ienK_1, ppNil_u, ppK_1, ppK2_1, ppK3_1, keysD_n, kdK_1, kdK2_1, ddK_1, ddK2_1, g2K_1, g2K1_1, g2K2_1, g2K3_1, g2K4_1, isDic_d, dpK_1, dpK1_1, dpK2_1, dpK3_1, dbK_1, dbK2_1, bdCopy_1, ddNew_u, dicS_r, dGet_u, dInK_u, valD_c, putD_c, iEnumD_u, ppCons_u, keysD_c, ddDisp_u, eGet2_u, sDput_u, ddCopy_u, List.map_cons, List.map_nil, List.length_cons, List.length_nil, List.cons_append, List.nil_append, List.append_nil, List.getElem?_cons_zero, List.getElem?_cons_succ, List.set_cons_zero, List.set_cons_succ, ofString_inj, ofString_beq, Pc.d, atI, ixN, becomes, becD, e]
  | kept b fs =>
    have e := plugged_D (k := k) (by omega) fs g S
    simp [bodies, varK_1, eVar_u, eC_u, aNil_u, acK1_1, acK2_1, aCons_u, tupK_1, eTup_u, ldK_1, lDisp_u, eLK_1, eLMK_1, eL_u, eLM_u, eDiK_1, eDMK_1, eDi_u, eDM_u, opK1_1, opK2_1, opK3_1, eOp_u, negK_1, eNeg_u, slK1_1, slK2_1, slK3_1, slK4_1, ptSK_1, ptN_u, ptS_u, eSlice_u, callK_1, eCall_u, biK_1, blK_1, blK2_1, eBi_u, lBi_u, isiK_1, isiK2_1, eIsi_u, revK_1, revK2_1, lRev_u, andEK_1, andEK_2, orEK_1, orEK_2, notEK_1, orSK_1, ifEK_1, ifEK_2, tofK_1, eAnd_u, eOr_u, eNot_u, eOrS_u, eIf_u, tOf_u, chK1_1, chK2_1, chK3_1, chK3_2, eChain_u, tandK_1, tandK_2, torK_1, torK_2, tnotK_1, tTrue_u, tfAnd_u, tfOr_u, tfNot_u, lcK1_1, lcK2_1, lcK3_1, lcK3_2, lcK4_1, lcK5_1, lcD_n, lcD_c, aLc_u, wipeD_n, wipeD_c, gdName_u, gsK_1, gsNil_u, gdTup_u, gsCons_u, iseqK_1, iseqK2_1, itupK_1, istrK_1, irng1K_1, irng2K_1, seqP_1, seqP_2, iSeq_u, iTupD_u, iStrD_u, iRange1_u, iRange2_u, m1K_1, m1K2_1, m0K_1, s1K_1, eMeth1_u, eMeth0_u, eS1_u, setK_1, asgK_1, asgK2_1, retK_1, expK_1, seqK_1, seqK_2, seqK_3, ifK_1, ifK_2, forK_1, forD_n, forK2_1, forK3_1, forK3_2, forK3_3, fnK_1, fnK_2, gcK_1, sNext_u, sBrk_u, stK_1, stK0_1, stK1_1, stK2_1, sSet_u, sAsg_u, sRet_u, sExp_u, sSeq_u, sIf_u, sFor_u, forD_c, fnD_u, gcFn_u, sSetIx_u, dAdd_i, dAdd_s, dAdd_t, dAdd_l, dSub_i, dCmp_i, dEq_s, dEq_i, dEq_b, dNe_s, dNe_i, dNe_b, dIx_t, dIx_l, dIx_c, dSlice_t, dSlice_l, dSlice_c, dSlice_s, bLen_t, bLen_l, bLen_s, bTup_t, bTup_l, blList_t, blList_l, bInt_i, bInt_t, bInt_f, bMin_i, dIsN_1, dIsN_2, seqL_l, seqL_c, dMod_i, dDiv_i, dMul_r, dMul_l, bLen_c, gc_same, pow12, dicS_d, dicO_1, keyO_s, keyO_i, dgK_1, dgK2_1, diK_1, diK2_f, diK2_t, valD_n, mergeD_n, mergeD_c, putD_n, ienK_1, ppNil_u, ppK_1, ppK2_1, ppK3_1, keysD_n, kdK_1, kdK2_1, ddK_1, ddK2_1, g2K_1, g2K1_1, g2K2_1, g2K3_1, g2K4_1, isDic_d, dpK_1, dpK1_1, dpK2_1, dpK3_1, dbK_1, dbK2_1, bdCopy_1, ddNew_u, dicS_r, dGet_u, dInK_u, valD_c, putD_c, iEnumD_u, ppCons_u, keysD_c, ddDisp_u, eGet2_u, sDput_u, ddCopy_u, List.map_cons, List.map_nil, List.length_cons, List.length_nil, List.cons_append, List.nil_append, List.append_nil, List.getElem?_cons_zero, List.getElem?_cons_succ, List.set_cons_zero, List.set_cons_succ, ofString_inj, ofString_beq, Pc.d, atI, ixN, becomes, becD, e]
  | _ => simp [Pc.isV] at hf
theorem done_here_D {k : Nat} (h : Pc) (S : List O) (hi : inn h = none) (hv : h.isV = false) (hn : ∀ x, h ≠ .name x) (ht : ∀ a x b, h ≠ .take a x b) (hb : bdc h + 3 ≤ k) (h3 : 4 ≤ k) : Fk k .done_here [h.d] S = some (becD (becomes h), S) := by
  obtain ⟨k, rfl⟩ : ∃ j, k = j + 1 := ⟨k - 1, by omega⟩
  rw [Fk_s]
  cases h with
  | num n => simp [Pc.isV] at hv
  | shut b x c => simp [Pc.isV] at hv
  | kept b fs => simp [Pc.isV] at hv
  | name x => exact absurd rfl (hn x)
  | take a x b => exact absurd rfl (ht a x b)
  | fn a x b => simp [bodies, varK_1, eVar_u, eC_u, aNil_u, acK1_1, acK2_1, aCons_u, tupK_1, eTup_u, ldK_1, lDisp_u, eLK_1, eLMK_1, eL_u, eLM_u, eDiK_1, eDMK_1, eDi_u, eDM_u, opK1_1, opK2_1, opK3_1, eOp_u, negK_1, eNeg_u, slK1_1, slK2_1, slK3_1, slK4_1, ptSK_1, ptN_u, ptS_u, eSlice_u, callK_1, eCall_u, biK_1, blK_1, blK2_1, eBi_u, lBi_u, isiK_1, isiK2_1, eIsi_u, revK_1, revK2_1, lRev_u, andEK_1, andEK_2, orEK_1, orEK_2, notEK_1, orSK_1, ifEK_1, ifEK_2, tofK_1, eAnd_u, eOr_u, eNot_u, eOrS_u, eIf_u, tOf_u, chK1_1, chK2_1, chK3_1, chK3_2, eChain_u, tandK_1, tandK_2, torK_1, torK_2, tnotK_1, tTrue_u, tfAnd_u, tfOr_u, tfNot_u, lcK1_1, lcK2_1, lcK3_1, lcK3_2, lcK4_1, lcK5_1, lcD_n, lcD_c, aLc_u, wipeD_n, wipeD_c, gdName_u, gsK_1, gsNil_u, gdTup_u, gsCons_u, iseqK_1, iseqK2_1, itupK_1, istrK_1, irng1K_1, irng2K_1, seqP_1, seqP_2, iSeq_u, iTupD_u, iStrD_u, iRange1_u, iRange2_u, m1K_1, m1K2_1, m0K_1, s1K_1, eMeth1_u, eMeth0_u, eS1_u, setK_1, asgK_1, asgK2_1, retK_1, expK_1, seqK_1, seqK_2, seqK_3, ifK_1, ifK_2, forK_1, forD_n, forK2_1, forK3_1, forK3_2, forK3_3, fnK_1, fnK_2, gcK_1, sNext_u, sBrk_u, stK_1, stK0_1, stK1_1, stK2_1, sSet_u, sAsg_u, sRet_u, sExp_u, sSeq_u, sIf_u, sFor_u, forD_c, fnD_u, gcFn_u, sSetIx_u, dAdd_i, dAdd_s, dAdd_t, dAdd_l, dSub_i, dCmp_i, dEq_s, dEq_i, dEq_b, dNe_s, dNe_i, dNe_b, dIx_t, dIx_l, dIx_c, dSlice_t, dSlice_l, dSlice_c, dSlice_s, bLen_t, bLen_l, bLen_s, bTup_t, bTup_l, blList_t, blList_l, bInt_i, bInt_t, bInt_f, bMin_i, dIsN_1, dIsN_2, seqL_l, seqL_c, dMod_i, dDiv_i, dMul_r, dMul_l, bLen_c, gc_same, pow12, dicS_d, dicO_1, keyO_s, keyO_i, dgK_1, dgK2_1, diK_1, diK2_f, diK2_t, valD_n, mergeD_n, mergeD_c, putD_n, ienK_1, ppNil_u, ppK_1, ppK2_1, ppK3_1, keysD_n, kdK_1, kdK2_1, ddK_1, ddK2_1, g2K_1, g2K1_1, g2K2_1, g2K3_1, g2K4_1, isDic_d, dpK_1, dpK1_1, dpK2_1, dpK3_1, dbK_1, dbK2_1, bdCopy_1, ddNew_u, dicS_r, dGet_u, dInK_u, valD_c, putD_c, iEnumD_u, ppCons_u, keysD_c, ddDisp_u, eGet2_u, sDput_u, ddCopy_u, List.map_cons, List.map_nil, List.length_cons, List.length_nil, List.cons_append, List.nil_append, List.append_nil, List.getElem?_cons_zero, List.getElem?_cons_succ, List.set_cons_zero, List.set_cons_succ, ofString_inj, ofString_beq, Pc.d, atI, ixN, becomes, becD, drop1, sizeLine_eq]
  | rnd b => simp [bodies, varK_1, eVar_u, eC_u, aNil_u, acK1_1, acK2_1, aCons_u, tupK_1, eTup_u, ldK_1, lDisp_u, eLK_1, eLMK_1, eL_u, eLM_u, eDiK_1, eDMK_1, eDi_u, eDM_u, opK1_1, opK2_1, opK3_1, eOp_u, negK_1, eNeg_u, slK1_1, slK2_1, slK3_1, slK4_1, ptSK_1, ptN_u, ptS_u, eSlice_u, callK_1, eCall_u, biK_1, blK_1, blK2_1, eBi_u, lBi_u, isiK_1, isiK2_1, eIsi_u, revK_1, revK2_1, lRev_u, andEK_1, andEK_2, orEK_1, orEK_2, notEK_1, orSK_1, ifEK_1, ifEK_2, tofK_1, eAnd_u, eOr_u, eNot_u, eOrS_u, eIf_u, tOf_u, chK1_1, chK2_1, chK3_1, chK3_2, eChain_u, tandK_1, tandK_2, torK_1, torK_2, tnotK_1, tTrue_u, tfAnd_u, tfOr_u, tfNot_u, lcK1_1, lcK2_1, lcK3_1, lcK3_2, lcK4_1, lcK5_1, lcD_n, lcD_c, aLc_u, wipeD_n, wipeD_c, gdName_u, gsK_1, gsNil_u, gdTup_u, gsCons_u, iseqK_1, iseqK2_1, itupK_1, istrK_1, irng1K_1, irng2K_1, seqP_1, seqP_2, iSeq_u, iTupD_u, iStrD_u, iRange1_u, iRange2_u, m1K_1, m1K2_1, m0K_1, s1K_1, eMeth1_u, eMeth0_u, eS1_u, setK_1, asgK_1, asgK2_1, retK_1, expK_1, seqK_1, seqK_2, seqK_3, ifK_1, ifK_2, forK_1, forD_n, forK2_1, forK3_1, forK3_2, forK3_3, fnK_1, fnK_2, gcK_1, sNext_u, sBrk_u, stK_1, stK0_1, stK1_1, stK2_1, sSet_u, sAsg_u, sRet_u, sExp_u, sSeq_u, sIf_u, sFor_u, forD_c, fnD_u, gcFn_u, sSetIx_u, dAdd_i, dAdd_s, dAdd_t, dAdd_l, dSub_i, dCmp_i, dEq_s, dEq_i, dEq_b, dNe_s, dNe_i, dNe_b, dIx_t, dIx_l, dIx_c, dSlice_t, dSlice_l, dSlice_c, dSlice_s, bLen_t, bLen_l, bLen_s, bTup_t, bTup_l, blList_t, blList_l, bInt_i, bInt_t, bInt_f, bMin_i, dIsN_1, dIsN_2, seqL_l, seqL_c, dMod_i, dDiv_i, dMul_r, dMul_l, bLen_c, gc_same, pow12, dicS_d, dicO_1, keyO_s, keyO_i, dgK_1, dgK2_1, diK_1, diK2_f, diK2_t, valD_n, mergeD_n, mergeD_c, putD_n, ienK_1, ppNil_u, ppK_1, ppK2_1, ppK3_1, keysD_n, kdK_1, kdK2_1, ddK_1, ddK2_1, g2K_1, g2K1_1, g2K2_1, g2K3_1, g2K4_1, isDic_d, dpK_1, dpK1_1, dpK2_1, dpK3_1, dbK_1, dbK2_1, bdCopy_1, ddNew_u, dicS_r, dGet_u, dInK_u, valD_c, putD_c, iEnumD_u, ppCons_u, keysD_c, ddDisp_u, eGet2_u, sDput_u, ddCopy_u, List.map_cons, List.map_nil, List.length_cons, List.length_nil, List.cons_append, List.nil_append, List.append_nil, List.getElem?_cons_zero, List.getElem?_cons_succ, List.set_cons_zero, List.set_cons_succ, ofString_inj, ofString_beq, Pc.d, atI, ixN, becomes, becD]
  | call a f g =>
    have hf : f.isV = true := by
      cases q : f.isV with
      | true => rfl
      | false => simp [inn, q] at hi
    have e := called_D (k := k) a f g S hf (by omega) (by omega)
    have e : Fk k .called [.tup [.str "call", .int a, f.d, g.d]] S = some (becD (becomes (.call a f g)), S) := e
    simp [bodies, varK_1, eVar_u, eC_u, aNil_u, acK1_1, acK2_1, aCons_u, tupK_1, eTup_u, ldK_1, lDisp_u, eLK_1, eLMK_1, eL_u, eLM_u, eDiK_1, eDMK_1, eDi_u, eDM_u, opK1_1, opK2_1, opK3_1, eOp_u, negK_1, eNeg_u, slK1_1, slK2_1, slK3_1, slK4_1, ptSK_1, ptN_u, ptS_u, eSlice_u, callK_1, eCall_u, biK_1, blK_1, blK2_1, eBi_u, lBi_u, isiK_1, isiK2_1, eIsi_u, revK_1, revK2_1, lRev_u, andEK_1, andEK_2, orEK_1, orEK_2, notEK_1, orSK_1, ifEK_1, ifEK_2, tofK_1, eAnd_u, eOr_u, eNot_u, eOrS_u, eIf_u, tOf_u, chK1_1, chK2_1, chK3_1, chK3_2, eChain_u, tandK_1, tandK_2, torK_1, torK_2, tnotK_1, tTrue_u, tfAnd_u, tfOr_u, tfNot_u, lcK1_1, lcK2_1, lcK3_1, lcK3_2, lcK4_1, lcK5_1, lcD_n, lcD_c, aLc_u, wipeD_n, wipeD_c, gdName_u, gsK_1, gsNil_u, gdTup_u, gsCons_u, iseqK_1, iseqK2_1, itupK_1, istrK_1, irng1K_1, irng2K_1, seqP_1, seqP_2, iSeq_u, iTupD_u, iStrD_u, iRange1_u, iRange2_u, m1K_1, m1K2_1, m0K_1, s1K_1, eMeth1_u, eMeth0_u, eS1_u, setK_1, asgK_1, asgK2_1, retK_1, expK_1, seqK_1, seqK_2, seqK_3, ifK_1, ifK_2, forK_1, forD_n, forK2_1, forK3_1, forK3_2, forK3_3, fnK_1, fnK_2, gcK_1, sNext_u, sBrk_u, stK_1, stK0_1, stK1_1, stK2_1, sSet_u, sAsg_u, sRet_u, sExp_u, sSeq_u, sIf_u, sFor_u, forD_c, fnD_u, gcFn_u, sSetIx_u, dAdd_i, dAdd_s, dAdd_t, dAdd_l, dSub_i, dCmp_i, dEq_s, dEq_i, dEq_b, dNe_s, dNe_i, dNe_b, dIx_t, dIx_l, dIx_c, dSlice_t, dSlice_l, dSlice_c, dSlice_s, bLen_t, bLen_l, bLen_s, bTup_t, bTup_l, blList_t, blList_l, bInt_i, bInt_t, bInt_f, bMin_i, dIsN_1, dIsN_2, seqL_l, seqL_c, dMod_i, dDiv_i, dMul_r, dMul_l, bLen_c, gc_same, pow12, dicS_d, dicO_1, keyO_s, keyO_i, dgK_1, dgK2_1, diK_1, diK2_f, diK2_t, valD_n, mergeD_n, mergeD_c, putD_n, ienK_1, ppNil_u, ppK_1, ppK2_1, ppK3_1, keysD_n, kdK_1, kdK2_1, ddK_1, ddK2_1, g2K_1, g2K1_1, g2K2_1, g2K3_1, g2K4_1, isDic_d, dpK_1, dpK1_1, dpK2_1, dpK3_1, dbK_1, dbK2_1, bdCopy_1, ddNew_u, dicS_r, dGet_u, dInK_u, valD_c, putD_c, iEnumD_u, ppCons_u, keysD_c, ddDisp_u, eGet2_u, sDput_u, ddCopy_u, List.map_cons, List.map_nil, List.length_cons, List.length_nil, List.cons_append, List.nil_append, List.append_nil, List.getElem?_cons_zero, List.getElem?_cons_succ, List.set_cons_zero, List.set_cons_succ, ofString_inj, ofString_beq, Pc.d, atI, ixN, e]
  | plus a f g =>
    have hf : f.isV = true ∧ g.isV = true := by
      cases q : f.isV <;> cases q' : g.isV <;> simp [inn, q, q'] at hi ⊢
    obtain ⟨hf, hg⟩ := hf
    cases f with
    | num m =>
      cases g with
      | num n => simp [bodies, varK_1, eVar_u, eC_u, aNil_u, acK1_1, acK2_1, aCons_u, tupK_1, eTup_u, ldK_1, lDisp_u, eLK_1, eLMK_1, eL_u, eLM_u, eDiK_1, eDMK_1, eDi_u, eDM_u, opK1_1, opK2_1, opK3_1, eOp_u, negK_1, eNeg_u, slK1_1, slK2_1, slK3_1, slK4_1, ptSK_1, ptN_u, ptS_u, eSlice_u, callK_1, eCall_u, biK_1, blK_1, blK2_1, eBi_u, lBi_u, isiK_1, isiK2_1, eIsi_u, revK_1, revK2_1, lRev_u, andEK_1, andEK_2, orEK_1, orEK_2, notEK_1, orSK_1, ifEK_1, ifEK_2, tofK_1, eAnd_u, eOr_u, eNot_u, eOrS_u, eIf_u, tOf_u, chK1_1, chK2_1, chK3_1, chK3_2, eChain_u, tandK_1, tandK_2, torK_1, torK_2, tnotK_1, tTrue_u, tfAnd_u, tfOr_u, tfNot_u, lcK1_1, lcK2_1, lcK3_1, lcK3_2, lcK4_1, lcK5_1, lcD_n, lcD_c, aLc_u, wipeD_n, wipeD_c, gdName_u, gsK_1, gsNil_u, gdTup_u, gsCons_u, iseqK_1, iseqK2_1, itupK_1, istrK_1, irng1K_1, irng2K_1, seqP_1, seqP_2, iSeq_u, iTupD_u, iStrD_u, iRange1_u, iRange2_u, m1K_1, m1K2_1, m0K_1, s1K_1, eMeth1_u, eMeth0_u, eS1_u, setK_1, asgK_1, asgK2_1, retK_1, expK_1, seqK_1, seqK_2, seqK_3, ifK_1, ifK_2, forK_1, forD_n, forK2_1, forK3_1, forK3_2, forK3_3, fnK_1, fnK_2, gcK_1, sNext_u, sBrk_u, stK_1, stK0_1, stK1_1, stK2_1, sSet_u, sAsg_u, sRet_u, sExp_u, sSeq_u, sIf_u, sFor_u, forD_c, fnD_u, gcFn_u, sSetIx_u, dAdd_i, dAdd_s, dAdd_t, dAdd_l, dSub_i, dCmp_i, dEq_s, dEq_i, dEq_b, dNe_s, dNe_i, dNe_b, dIx_t, dIx_l, dIx_c, dSlice_t, dSlice_l, dSlice_c, dSlice_s, bLen_t, bLen_l, bLen_s, bTup_t, bTup_l, blList_t, blList_l, bInt_i, bInt_t, bInt_f, bMin_i, dIsN_1, dIsN_2, seqL_l, seqL_c, dMod_i, dDiv_i, dMul_r, dMul_l, bLen_c, gc_same, pow12, dicS_d, dicO_1, keyO_s, keyO_i, dgK_1, dgK2_1, diK_1, diK2_f, diK2_t, valD_n, mergeD_n, mergeD_c, putD_n, ienK_1, ppNil_u, ppK_1, ppK2_1, ppK3_1, keysD_n, kdK_1, kdK2_1, ddK_1, ddK2_1, g2K_1, g2K1_1, g2K2_1, g2K3_1, g2K4_1, isDic_d, dpK_1, dpK1_1, dpK2_1, dpK3_1, dbK_1, dbK2_1, bdCopy_1, ddNew_u, dicS_r, dGet_u, dInK_u, valD_c, putD_c, iEnumD_u, ppCons_u, keysD_c, ddDisp_u, eGet2_u, sDput_u, ddCopy_u, List.map_cons, List.map_nil, List.length_cons, List.length_nil, List.cons_append, List.nil_append, List.append_nil, List.getElem?_cons_zero, List.getElem?_cons_succ, List.set_cons_zero, List.set_cons_succ, ofString_inj, ofString_beq, Pc.d, atI, ixN, becomes, becD]
      | shut b x c => simp [bodies, varK_1, eVar_u, eC_u, aNil_u, acK1_1, acK2_1, aCons_u, tupK_1, eTup_u, ldK_1, lDisp_u, eLK_1, eLMK_1, eL_u, eLM_u, eDiK_1, eDMK_1, eDi_u, eDM_u, opK1_1, opK2_1, opK3_1, eOp_u, negK_1, eNeg_u, slK1_1, slK2_1, slK3_1, slK4_1, ptSK_1, ptN_u, ptS_u, eSlice_u, callK_1, eCall_u, biK_1, blK_1, blK2_1, eBi_u, lBi_u, isiK_1, isiK2_1, eIsi_u, revK_1, revK2_1, lRev_u, andEK_1, andEK_2, orEK_1, orEK_2, notEK_1, orSK_1, ifEK_1, ifEK_2, tofK_1, eAnd_u, eOr_u, eNot_u, eOrS_u, eIf_u, tOf_u, chK1_1, chK2_1, chK3_1, chK3_2, eChain_u, tandK_1, tandK_2, torK_1, torK_2, tnotK_1, tTrue_u, tfAnd_u, tfOr_u, tfNot_u, lcK1_1, lcK2_1, lcK3_1, lcK3_2, lcK4_1, lcK5_1, lcD_n, lcD_c, aLc_u, wipeD_n, wipeD_c, gdName_u, gsK_1, gsNil_u, gdTup_u, gsCons_u, iseqK_1, iseqK2_1, itupK_1, istrK_1, irng1K_1, irng2K_1, seqP_1, seqP_2, iSeq_u, iTupD_u, iStrD_u, iRange1_u, iRange2_u, m1K_1, m1K2_1, m0K_1, s1K_1, eMeth1_u, eMeth0_u, eS1_u, setK_1, asgK_1, asgK2_1, retK_1, expK_1, seqK_1, seqK_2, seqK_3, ifK_1, ifK_2, forK_1, forD_n, forK2_1, forK3_1, forK3_2, forK3_3, fnK_1, fnK_2, gcK_1, sNext_u, sBrk_u, stK_1, stK0_1, stK1_1, stK2_1, sSet_u, sAsg_u, sRet_u, sExp_u, sSeq_u, sIf_u, sFor_u, forD_c, fnD_u, gcFn_u, sSetIx_u, dAdd_i, dAdd_s, dAdd_t, dAdd_l, dSub_i, dCmp_i, dEq_s, dEq_i, dEq_b, dNe_s, dNe_i, dNe_b, dIx_t, dIx_l, dIx_c, dSlice_t, dSlice_l, dSlice_c, dSlice_s, bLen_t, bLen_l, bLen_s, bTup_t, bTup_l, blList_t, blList_l, bInt_i, bInt_t, bInt_f, bMin_i, dIsN_1, dIsN_2, seqL_l, seqL_c, dMod_i, dDiv_i, dMul_r, dMul_l, bLen_c, gc_same, pow12, dicS_d, dicO_1, keyO_s, keyO_i, dgK_1, dgK2_1, diK_1, diK2_f, diK2_t, valD_n, mergeD_n, mergeD_c, putD_n, ienK_1, ppNil_u, ppK_1, ppK2_1, ppK3_1, keysD_n, kdK_1, kdK2_1, ddK_1, ddK2_1, g2K_1, g2K1_1, g2K2_1, g2K3_1, g2K4_1, isDic_d, dpK_1, dpK1_1, dpK2_1, dpK3_1, dbK_1, dbK2_1, bdCopy_1, ddNew_u, dicS_r, dGet_u, dInK_u, valD_c, putD_c, iEnumD_u, ppCons_u, keysD_c, ddDisp_u, eGet2_u, sDput_u, ddCopy_u, List.map_cons, List.map_nil, List.length_cons, List.length_nil, List.cons_append, List.nil_append, List.append_nil, List.getElem?_cons_zero, List.getElem?_cons_succ, List.set_cons_zero, List.set_cons_succ, ofString_inj, ofString_beq, Pc.d, atI, ixN, becomes, becD]
      | kept b fs => simp [bodies, varK_1, eVar_u, eC_u, aNil_u, acK1_1, acK2_1, aCons_u, tupK_1, eTup_u, ldK_1, lDisp_u, eLK_1, eLMK_1, eL_u, eLM_u, eDiK_1, eDMK_1, eDi_u, eDM_u, opK1_1, opK2_1, opK3_1, eOp_u, negK_1, eNeg_u, slK1_1, slK2_1, slK3_1, slK4_1, ptSK_1, ptN_u, ptS_u, eSlice_u, callK_1, eCall_u, biK_1, blK_1, blK2_1, eBi_u, lBi_u, isiK_1, isiK2_1, eIsi_u, revK_1, revK2_1, lRev_u, andEK_1, andEK_2, orEK_1, orEK_2, notEK_1, orSK_1, ifEK_1, ifEK_2, tofK_1, eAnd_u, eOr_u, eNot_u, eOrS_u, eIf_u, tOf_u, chK1_1, chK2_1, chK3_1, chK3_2, eChain_u, tandK_1, tandK_2, torK_1, torK_2, tnotK_1, tTrue_u, tfAnd_u, tfOr_u, tfNot_u, lcK1_1, lcK2_1, lcK3_1, lcK3_2, lcK4_1, lcK5_1, lcD_n, lcD_c, aLc_u, wipeD_n, wipeD_c, gdName_u, gsK_1, gsNil_u, gdTup_u, gsCons_u, iseqK_1, iseqK2_1, itupK_1, istrK_1, irng1K_1, irng2K_1, seqP_1, seqP_2, iSeq_u, iTupD_u, iStrD_u, iRange1_u, iRange2_u, m1K_1, m1K2_1, m0K_1, s1K_1, eMeth1_u, eMeth0_u, eS1_u, setK_1, asgK_1, asgK2_1, retK_1, expK_1, seqK_1, seqK_2, seqK_3, ifK_1, ifK_2, forK_1, forD_n, forK2_1, forK3_1, forK3_2, forK3_3, fnK_1, fnK_2, gcK_1, sNext_u, sBrk_u, stK_1, stK0_1, stK1_1, stK2_1, sSet_u, sAsg_u, sRet_u, sExp_u, sSeq_u, sIf_u, sFor_u, forD_c, fnD_u, gcFn_u, sSetIx_u, dAdd_i, dAdd_s, dAdd_t, dAdd_l, dSub_i, dCmp_i, dEq_s, dEq_i, dEq_b, dNe_s, dNe_i, dNe_b, dIx_t, dIx_l, dIx_c, dSlice_t, dSlice_l, dSlice_c, dSlice_s, bLen_t, bLen_l, bLen_s, bTup_t, bTup_l, blList_t, blList_l, bInt_i, bInt_t, bInt_f, bMin_i, dIsN_1, dIsN_2, seqL_l, seqL_c, dMod_i, dDiv_i, dMul_r, dMul_l, bLen_c, gc_same, pow12, dicS_d, dicO_1, keyO_s, keyO_i, dgK_1, dgK2_1, diK_1, diK2_f, diK2_t, valD_n, mergeD_n, mergeD_c, putD_n, ienK_1, ppNil_u, ppK_1, ppK2_1, ppK3_1, keysD_n, kdK_1, kdK2_1, ddK_1, ddK2_1, g2K_1, g2K1_1, g2K2_1, g2K3_1, g2K4_1, isDic_d, dpK_1, dpK1_1, dpK2_1, dpK3_1, dbK_1, dbK2_1, bdCopy_1, ddNew_u, dicS_r, dGet_u, dInK_u, valD_c, putD_c, iEnumD_u, ppCons_u, keysD_c, ddDisp_u, eGet2_u, sDput_u, ddCopy_u, List.map_cons, List.map_nil, List.length_cons, List.length_nil, List.cons_append, List.nil_append, List.append_nil, List.getElem?_cons_zero, List.getElem?_cons_succ, List.set_cons_zero, List.set_cons_succ, ofString_inj, ofString_beq, Pc.d, atI, ixN, becomes, becD]
      | _ => simp [Pc.isV] at hg
    | shut b x c => simp [bodies, varK_1, eVar_u, eC_u, aNil_u, acK1_1, acK2_1, aCons_u, tupK_1, eTup_u, ldK_1, lDisp_u, eLK_1, eLMK_1, eL_u, eLM_u, eDiK_1, eDMK_1, eDi_u, eDM_u, opK1_1, opK2_1, opK3_1, eOp_u, negK_1, eNeg_u, slK1_1, slK2_1, slK3_1, slK4_1, ptSK_1, ptN_u, ptS_u, eSlice_u, callK_1, eCall_u, biK_1, blK_1, blK2_1, eBi_u, lBi_u, isiK_1, isiK2_1, eIsi_u, revK_1, revK2_1, lRev_u, andEK_1, andEK_2, orEK_1, orEK_2, notEK_1, orSK_1, ifEK_1, ifEK_2, tofK_1, eAnd_u, eOr_u, eNot_u, eOrS_u, eIf_u, tOf_u, chK1_1, chK2_1, chK3_1, chK3_2, eChain_u, tandK_1, tandK_2, torK_1, torK_2, tnotK_1, tTrue_u, tfAnd_u, tfOr_u, tfNot_u, lcK1_1, lcK2_1, lcK3_1, lcK3_2, lcK4_1, lcK5_1, lcD_n, lcD_c, aLc_u, wipeD_n, wipeD_c, gdName_u, gsK_1, gsNil_u, gdTup_u, gsCons_u, iseqK_1, iseqK2_1, itupK_1, istrK_1, irng1K_1, irng2K_1, seqP_1, seqP_2, iSeq_u, iTupD_u, iStrD_u, iRange1_u, iRange2_u, m1K_1, m1K2_1, m0K_1, s1K_1, eMeth1_u, eMeth0_u, eS1_u, setK_1, asgK_1, asgK2_1, retK_1, expK_1, seqK_1, seqK_2, seqK_3, ifK_1, ifK_2, forK_1, forD_n, forK2_1, forK3_1, forK3_2, forK3_3, fnK_1, fnK_2, gcK_1, sNext_u, sBrk_u, stK_1, stK0_1, stK1_1, stK2_1, sSet_u, sAsg_u, sRet_u, sExp_u, sSeq_u, sIf_u, sFor_u, forD_c, fnD_u, gcFn_u, sSetIx_u, dAdd_i, dAdd_s, dAdd_t, dAdd_l, dSub_i, dCmp_i, dEq_s, dEq_i, dEq_b, dNe_s, dNe_i, dNe_b, dIx_t, dIx_l, dIx_c, dSlice_t, dSlice_l, dSlice_c, dSlice_s, bLen_t, bLen_l, bLen_s, bTup_t, bTup_l, blList_t, blList_l, bInt_i, bInt_t, bInt_f, bMin_i, dIsN_1, dIsN_2, seqL_l, seqL_c, dMod_i, dDiv_i, dMul_r, dMul_l, bLen_c, gc_same, pow12, dicS_d, dicO_1, keyO_s, keyO_i, dgK_1, dgK2_1, diK_1, diK2_f, diK2_t, valD_n, mergeD_n, mergeD_c, putD_n, ienK_1, ppNil_u, ppK_1, ppK2_1, ppK3_1, keysD_n, kdK_1, kdK2_1, ddK_1, ddK2_1, g2K_1, g2K1_1, g2K2_1, g2K3_1, g2K4_1, isDic_d, dpK_1, dpK1_1, dpK2_1, dpK3_1, dbK_1, dbK2_1, bdCopy_1, ddNew_u, dicS_r, dGet_u, dInK_u, valD_c, putD_c, iEnumD_u, ppCons_u, keysD_c, ddDisp_u, eGet2_u, sDput_u, ddCopy_u, List.map_cons, List.map_nil, List.length_cons, List.length_nil, List.cons_append, List.nil_append, List.append_nil, List.getElem?_cons_zero, List.getElem?_cons_succ, List.set_cons_zero, List.set_cons_succ, ofString_inj, ofString_beq, Pc.d, atI, ixN, becomes, becD]
    | kept b fs => simp [bodies, varK_1, eVar_u, eC_u, aNil_u, acK1_1, acK2_1, aCons_u, tupK_1, eTup_u, ldK_1, lDisp_u, eLK_1, eLMK_1, eL_u, eLM_u, eDiK_1, eDMK_1, eDi_u, eDM_u, opK1_1, opK2_1, opK3_1, eOp_u, negK_1, eNeg_u, slK1_1, slK2_1, slK3_1, slK4_1, ptSK_1, ptN_u, ptS_u, eSlice_u, callK_1, eCall_u, biK_1, blK_1, blK2_1, eBi_u, lBi_u, isiK_1, isiK2_1, eIsi_u, revK_1, revK2_1, lRev_u, andEK_1, andEK_2, orEK_1, orEK_2, notEK_1, orSK_1, ifEK_1, ifEK_2, tofK_1, eAnd_u, eOr_u, eNot_u, eOrS_u, eIf_u, tOf_u, chK1_1, chK2_1, chK3_1, chK3_2, eChain_u, tandK_1, tandK_2, torK_1, torK_2, tnotK_1, tTrue_u, tfAnd_u, tfOr_u, tfNot_u, lcK1_1, lcK2_1, lcK3_1, lcK3_2, lcK4_1, lcK5_1, lcD_n, lcD_c, aLc_u, wipeD_n, wipeD_c, gdName_u, gsK_1, gsNil_u, gdTup_u, gsCons_u, iseqK_1, iseqK2_1, itupK_1, istrK_1, irng1K_1, irng2K_1, seqP_1, seqP_2, iSeq_u, iTupD_u, iStrD_u, iRange1_u, iRange2_u, m1K_1, m1K2_1, m0K_1, s1K_1, eMeth1_u, eMeth0_u, eS1_u, setK_1, asgK_1, asgK2_1, retK_1, expK_1, seqK_1, seqK_2, seqK_3, ifK_1, ifK_2, forK_1, forD_n, forK2_1, forK3_1, forK3_2, forK3_3, fnK_1, fnK_2, gcK_1, sNext_u, sBrk_u, stK_1, stK0_1, stK1_1, stK2_1, sSet_u, sAsg_u, sRet_u, sExp_u, sSeq_u, sIf_u, sFor_u, forD_c, fnD_u, gcFn_u, sSetIx_u, dAdd_i, dAdd_s, dAdd_t, dAdd_l, dSub_i, dCmp_i, dEq_s, dEq_i, dEq_b, dNe_s, dNe_i, dNe_b, dIx_t, dIx_l, dIx_c, dSlice_t, dSlice_l, dSlice_c, dSlice_s, bLen_t, bLen_l, bLen_s, bTup_t, bTup_l, blList_t, blList_l, bInt_i, bInt_t, bInt_f, bMin_i, dIsN_1, dIsN_2, seqL_l, seqL_c, dMod_i, dDiv_i, dMul_r, dMul_l, bLen_c, gc_same, pow12, dicS_d, dicO_1, keyO_s, keyO_i, dgK_1, dgK2_1, diK_1, diK2_f, diK2_t, valD_n, mergeD_n, mergeD_c, putD_n, ienK_1, ppNil_u, ppK_1, ppK2_1, ppK3_1, keysD_n, kdK_1, kdK2_1, ddK_1, ddK2_1, g2K_1, g2K1_1, g2K2_1, g2K3_1, g2K4_1, isDic_d, dpK_1, dpK1_1, dpK2_1, dpK3_1, dbK_1, dbK2_1, bdCopy_1, ddNew_u, dicS_r, dGet_u, dInK_u, valD_c, putD_c, iEnumD_u, ppCons_u, keysD_c, ddDisp_u, eGet2_u, sDput_u, ddCopy_u, List.map_cons, List.map_nil, List.length_cons, List.length_nil, List.cons_append, List.nil_append, List.append_nil, List.getElem?_cons_zero, List.getElem?_cons_succ, List.set_cons_zero, List.set_cons_succ, ofString_inj, ofString_beq, Pc.d, atI, ixN, becomes, becD]
    | _ => simp [Pc.isV] at hf
  | pick a c f g =>
    have hc : c.isV = true := by
      cases q : c.isV with
      | true => rfl
      | false => simp [inn, q] at hi
    cases c with
    | num m => by_cases z : m = 0 <;> simp [bodies, varK_1, eVar_u, eC_u, aNil_u, acK1_1, acK2_1, aCons_u, tupK_1, eTup_u, ldK_1, lDisp_u, eLK_1, eLMK_1, eL_u, eLM_u, eDiK_1, eDMK_1, eDi_u, eDM_u, opK1_1, opK2_1, opK3_1, eOp_u, negK_1, eNeg_u, slK1_1, slK2_1, slK3_1, slK4_1, ptSK_1, ptN_u, ptS_u, eSlice_u, callK_1, eCall_u, biK_1, blK_1, blK2_1, eBi_u, lBi_u, isiK_1, isiK2_1, eIsi_u, revK_1, revK2_1, lRev_u, andEK_1, andEK_2, orEK_1, orEK_2, notEK_1, orSK_1, ifEK_1, ifEK_2, tofK_1, eAnd_u, eOr_u, eNot_u, eOrS_u, eIf_u, tOf_u, chK1_1, chK2_1, chK3_1, chK3_2, eChain_u, tandK_1, tandK_2, torK_1, torK_2, tnotK_1, tTrue_u, tfAnd_u, tfOr_u, tfNot_u, lcK1_1, lcK2_1, lcK3_1, lcK3_2, lcK4_1, lcK5_1, lcD_n, lcD_c, aLc_u, wipeD_n, wipeD_c, gdName_u, gsK_1, gsNil_u, gdTup_u, gsCons_u, iseqK_1, iseqK2_1, itupK_1, istrK_1, irng1K_1, irng2K_1, seqP_1, seqP_2, iSeq_u, iTupD_u, iStrD_u, iRange1_u, iRange2_u, m1K_1, m1K2_1, m0K_1, s1K_1, eMeth1_u, eMeth0_u, eS1_u, setK_1, asgK_1, asgK2_1, retK_1, expK_1, seqK_1, seqK_2, seqK_3, ifK_1, ifK_2, forK_1, forD_n, forK2_1, forK3_1, forK3_2, forK3_3, fnK_1, fnK_2, gcK_1, sNext_u, sBrk_u, stK_1, stK0_1, stK1_1, stK2_1, sSet_u, sAsg_u, sRet_u, sExp_u, sSeq_u, sIf_u, sFor_u, forD_c, fnD_u, gcFn_u, sSetIx_u, dAdd_i, dAdd_s, dAdd_t, dAdd_l, dSub_i, dCmp_i, dEq_s, dEq_i, dEq_b, dNe_s, dNe_i, dNe_b, dIx_t, dIx_l, dIx_c, dSlice_t, dSlice_l, dSlice_c, dSlice_s, bLen_t, bLen_l, bLen_s, bTup_t, bTup_l, blList_t, blList_l, bInt_i, bInt_t, bInt_f, bMin_i, dIsN_1, dIsN_2, seqL_l, seqL_c, dMod_i, dDiv_i, dMul_r, dMul_l, bLen_c, gc_same, pow12, dicS_d, dicO_1, keyO_s, keyO_i, dgK_1, dgK2_1, diK_1, diK2_f, diK2_t, valD_n, mergeD_n, mergeD_c, putD_n, ienK_1, ppNil_u, ppK_1, ppK2_1, ppK3_1, keysD_n, kdK_1, kdK2_1, ddK_1, ddK2_1, g2K_1, g2K1_1, g2K2_1, g2K3_1, g2K4_1, isDic_d, dpK_1, dpK1_1, dpK2_1, dpK3_1, dbK_1, dbK2_1, bdCopy_1, ddNew_u, dicS_r, dGet_u, dInK_u, valD_c, putD_c, iEnumD_u, ppCons_u, keysD_c, ddDisp_u, eGet2_u, sDput_u, ddCopy_u, List.map_cons, List.map_nil, List.length_cons, List.length_nil, List.cons_append, List.nil_append, List.append_nil, List.getElem?_cons_zero, List.getElem?_cons_succ, List.set_cons_zero, List.set_cons_succ, ofString_inj, ofString_beq, Pc.d, atI, ixN, becomes, becD, z]
    | shut b x c => simp [bodies, varK_1, eVar_u, eC_u, aNil_u, acK1_1, acK2_1, aCons_u, tupK_1, eTup_u, ldK_1, lDisp_u, eLK_1, eLMK_1, eL_u, eLM_u, eDiK_1, eDMK_1, eDi_u, eDM_u, opK1_1, opK2_1, opK3_1, eOp_u, negK_1, eNeg_u, slK1_1, slK2_1, slK3_1, slK4_1, ptSK_1, ptN_u, ptS_u, eSlice_u, callK_1, eCall_u, biK_1, blK_1, blK2_1, eBi_u, lBi_u, isiK_1, isiK2_1, eIsi_u, revK_1, revK2_1, lRev_u, andEK_1, andEK_2, orEK_1, orEK_2, notEK_1, orSK_1, ifEK_1, ifEK_2, tofK_1, eAnd_u, eOr_u, eNot_u, eOrS_u, eIf_u, tOf_u, chK1_1, chK2_1, chK3_1, chK3_2, eChain_u, tandK_1, tandK_2, torK_1, torK_2, tnotK_1, tTrue_u, tfAnd_u, tfOr_u, tfNot_u, lcK1_1, lcK2_1, lcK3_1, lcK3_2, lcK4_1, lcK5_1, lcD_n, lcD_c, aLc_u, wipeD_n, wipeD_c, gdName_u, gsK_1, gsNil_u, gdTup_u, gsCons_u, iseqK_1, iseqK2_1, itupK_1, istrK_1, irng1K_1, irng2K_1, seqP_1, seqP_2, iSeq_u, iTupD_u, iStrD_u, iRange1_u, iRange2_u, m1K_1, m1K2_1, m0K_1, s1K_1, eMeth1_u, eMeth0_u, eS1_u, setK_1, asgK_1, asgK2_1, retK_1, expK_1, seqK_1, seqK_2, seqK_3, ifK_1, ifK_2, forK_1, forD_n, forK2_1, forK3_1, forK3_2, forK3_3, fnK_1, fnK_2, gcK_1, sNext_u, sBrk_u, stK_1, stK0_1, stK1_1, stK2_1, sSet_u, sAsg_u, sRet_u, sExp_u, sSeq_u, sIf_u, sFor_u, forD_c, fnD_u, gcFn_u, sSetIx_u, dAdd_i, dAdd_s, dAdd_t, dAdd_l, dSub_i, dCmp_i, dEq_s, dEq_i, dEq_b, dNe_s, dNe_i, dNe_b, dIx_t, dIx_l, dIx_c, dSlice_t, dSlice_l, dSlice_c, dSlice_s, bLen_t, bLen_l, bLen_s, bTup_t, bTup_l, blList_t, blList_l, bInt_i, bInt_t, bInt_f, bMin_i, dIsN_1, dIsN_2, seqL_l, seqL_c, dMod_i, dDiv_i, dMul_r, dMul_l, bLen_c, gc_same, pow12, dicS_d, dicO_1, keyO_s, keyO_i, dgK_1, dgK2_1, diK_1, diK2_f, diK2_t, valD_n, mergeD_n, mergeD_c, putD_n, ienK_1, ppNil_u, ppK_1, ppK2_1, ppK3_1, keysD_n, kdK_1, kdK2_1, ddK_1, ddK2_1, g2K_1, g2K1_1, g2K2_1, g2K3_1, g2K4_1, isDic_d, dpK_1, dpK1_1, dpK2_1, dpK3_1, dbK_1, dbK2_1, bdCopy_1, ddNew_u, dicS_r, dGet_u, dInK_u, valD_c, putD_c, iEnumD_u, ppCons_u, keysD_c, ddDisp_u, eGet2_u, sDput_u, ddCopy_u, List.map_cons, List.map_nil, List.length_cons, List.length_nil, List.cons_append, List.nil_append, List.append_nil, List.getElem?_cons_zero, List.getElem?_cons_succ, List.set_cons_zero, List.set_cons_succ, ofString_inj, ofString_beq, Pc.d, atI, ixN, becomes, becD]
    | kept b fs => simp [bodies, varK_1, eVar_u, eC_u, aNil_u, acK1_1, acK2_1, aCons_u, tupK_1, eTup_u, ldK_1, lDisp_u, eLK_1, eLMK_1, eL_u, eLM_u, eDiK_1, eDMK_1, eDi_u, eDM_u, opK1_1, opK2_1, opK3_1, eOp_u, negK_1, eNeg_u, slK1_1, slK2_1, slK3_1, slK4_1, ptSK_1, ptN_u, ptS_u, eSlice_u, callK_1, eCall_u, biK_1, blK_1, blK2_1, eBi_u, lBi_u, isiK_1, isiK2_1, eIsi_u, revK_1, revK2_1, lRev_u, andEK_1, andEK_2, orEK_1, orEK_2, notEK_1, orSK_1, ifEK_1, ifEK_2, tofK_1, eAnd_u, eOr_u, eNot_u, eOrS_u, eIf_u, tOf_u, chK1_1, chK2_1, chK3_1, chK3_2, eChain_u, tandK_1, tandK_2, torK_1, torK_2, tnotK_1, tTrue_u, tfAnd_u, tfOr_u, tfNot_u, lcK1_1, lcK2_1, lcK3_1, lcK3_2, lcK4_1, lcK5_1, lcD_n, lcD_c, aLc_u, wipeD_n, wipeD_c, gdName_u, gsK_1, gsNil_u, gdTup_u, gsCons_u, iseqK_1, iseqK2_1, itupK_1, istrK_1, irng1K_1, irng2K_1, seqP_1, seqP_2, iSeq_u, iTupD_u, iStrD_u, iRange1_u, iRange2_u, m1K_1, m1K2_1, m0K_1, s1K_1, eMeth1_u, eMeth0_u, eS1_u, setK_1, asgK_1, asgK2_1, retK_1, expK_1, seqK_1, seqK_2, seqK_3, ifK_1, ifK_2, forK_1, forD_n, forK2_1, forK3_1, forK3_2, forK3_3, fnK_1, fnK_2, gcK_1, sNext_u, sBrk_u, stK_1, stK0_1, stK1_1, stK2_1, sSet_u, sAsg_u, sRet_u, sExp_u, sSeq_u, sIf_u, sFor_u, forD_c, fnD_u, gcFn_u, sSetIx_u, dAdd_i, dAdd_s, dAdd_t, dAdd_l, dSub_i, dCmp_i, dEq_s, dEq_i, dEq_b, dNe_s, dNe_i, dNe_b, dIx_t, dIx_l, dIx_c, dSlice_t, dSlice_l, dSlice_c, dSlice_s, bLen_t, bLen_l, bLen_s, bTup_t, bTup_l, blList_t, blList_l, bInt_i, bInt_t, bInt_f, bMin_i, dIsN_1, dIsN_2, seqL_l, seqL_c, dMod_i, dDiv_i, dMul_r, dMul_l, bLen_c, gc_same, pow12, dicS_d, dicO_1, keyO_s, keyO_i, dgK_1, dgK2_1, diK_1, diK2_f, diK2_t, valD_n, mergeD_n, mergeD_c, putD_n, ienK_1, ppNil_u, ppK_1, ppK2_1, ppK3_1, keysD_n, kdK_1, kdK2_1, ddK_1, ddK2_1, g2K_1, g2K1_1, g2K2_1, g2K3_1, g2K4_1, isDic_d, dpK_1, dpK1_1, dpK2_1, dpK3_1, dbK_1, dbK2_1, bdCopy_1, ddNew_u, dicS_r, dGet_u, dInK_u, valD_c, putD_c, iEnumD_u, ppCons_u, keysD_c, ddDisp_u, eGet2_u, sDput_u, ddCopy_u, List.map_cons, List.map_nil, List.length_cons, List.length_nil, List.cons_append, List.nil_append, List.append_nil, List.getElem?_cons_zero, List.getElem?_cons_succ, List.set_cons_zero, List.set_cons_succ, ofString_inj, ofString_beq, Pc.d, atI, ixN, becomes, becD]
    | _ => simp [Pc.isV] at hc
theorem isNon_pc (p : Pc) : isNon p.d = false := by cases p <;> simp [Pc.d, isNon]
theorem isNon_bec (o : Option Pc) : isNon (becD o) = o.isNone := by cases o with
  | none => rfl
  | some q => exact isNon_pc q
theorem stepped_D {k : Nat} (p : Pc) (S : List O) (ok : okS S) (hl : (frs p).length < 10000000) (nn : ∀ x, hd p ≠ .name x) (hb : bdc (hd p) + 6 ≤ k) : Fk k .stepped [p.d] S = some ((step p).d p, S) := by
  obtain ⟨k, rfl⟩ : ∃ j, k = j + 1 := ⟨k - 1, by omega⟩
  rw [Fk_s]
  have ev := is_value_D' (k := k) (by omega) p S
  cases hv : p.isV with
  | true =>
    rw [hv] at ev
    simp [bodies, varK_1, eVar_u, eC_u, aNil_u, acK1_1, acK2_1, aCons_u, tupK_1, eTup_u, ldK_1, lDisp_u, eLK_1, eLMK_1, eL_u, eLM_u, eDiK_1, eDMK_1, eDi_u, eDM_u, opK1_1, opK2_1, opK3_1, eOp_u, negK_1, eNeg_u, slK1_1, slK2_1, slK3_1, slK4_1, ptSK_1, ptN_u, ptS_u, eSlice_u, callK_1, eCall_u, biK_1, blK_1, blK2_1, eBi_u, lBi_u, isiK_1, isiK2_1, eIsi_u, revK_1, revK2_1, lRev_u, andEK_1, andEK_2, orEK_1, orEK_2, notEK_1, orSK_1, ifEK_1, ifEK_2, tofK_1, eAnd_u, eOr_u, eNot_u, eOrS_u, eIf_u, tOf_u, chK1_1, chK2_1, chK3_1, chK3_2, eChain_u, tandK_1, tandK_2, torK_1, torK_2, tnotK_1, tTrue_u, tfAnd_u, tfOr_u, tfNot_u, lcK1_1, lcK2_1, lcK3_1, lcK3_2, lcK4_1, lcK5_1, lcD_n, lcD_c, aLc_u, wipeD_n, wipeD_c, gdName_u, gsK_1, gsNil_u, gdTup_u, gsCons_u, iseqK_1, iseqK2_1, itupK_1, istrK_1, irng1K_1, irng2K_1, seqP_1, seqP_2, iSeq_u, iTupD_u, iStrD_u, iRange1_u, iRange2_u, m1K_1, m1K2_1, m0K_1, s1K_1, eMeth1_u, eMeth0_u, eS1_u, setK_1, asgK_1, asgK2_1, retK_1, expK_1, seqK_1, seqK_2, seqK_3, ifK_1, ifK_2, forK_1, forD_n, forK2_1, forK3_1, forK3_2, forK3_3, fnK_1, fnK_2, gcK_1, sNext_u, sBrk_u, stK_1, stK0_1, stK1_1, stK2_1, sSet_u, sAsg_u, sRet_u, sExp_u, sSeq_u, sIf_u, sFor_u, forD_c, fnD_u, gcFn_u, sSetIx_u, dAdd_i, dAdd_s, dAdd_t, dAdd_l, dSub_i, dCmp_i, dEq_s, dEq_i, dEq_b, dNe_s, dNe_i, dNe_b, dIx_t, dIx_l, dIx_c, dSlice_t, dSlice_l, dSlice_c, dSlice_s, bLen_t, bLen_l, bLen_s, bTup_t, bTup_l, blList_t, blList_l, bInt_i, bInt_t, bInt_f, bMin_i, dIsN_1, dIsN_2, seqL_l, seqL_c, dMod_i, dDiv_i, dMul_r, dMul_l, bLen_c, gc_same, pow12, dicS_d, dicO_1, keyO_s, keyO_i, dgK_1, dgK2_1, diK_1, diK2_f, diK2_t, valD_n, mergeD_n, mergeD_c, putD_n, ienK_1, ppNil_u, ppK_1, ppK2_1, ppK3_1, keysD_n, kdK_1, kdK2_1, ddK_1, ddK2_1, g2K_1, g2K1_1, g2K2_1, g2K3_1, g2K4_1, isDic_d, dpK_1, dpK1_1, dpK2_1, dpK3_1, dbK_1, dbK2_1, bdCopy_1, ddNew_u, dicS_r, dGet_u, dInK_u, valD_c, putD_c, iEnumD_u, ppCons_u, keysD_c, ddDisp_u, eGet2_u, sDput_u, ddCopy_u, List.map_cons, List.map_nil, List.length_cons, List.length_nil, List.cons_append, List.nil_append, List.append_nil, List.getElem?_cons_zero, List.getElem?_cons_succ, List.set_cons_zero, List.set_cons_succ, ofString_inj, ofString_beq, ev, step, hv, Stp.d]
  | false =>
    rw [hv] at ev
    have ep := parted_D (k := k) (by omega) p S ok hl
    have hv' := hd_isV hv
    have hi := hd_inn p
    have es : step p = stepH (frs p).reverse (hd p) := by unfold step; rw [hv]; rfl
    rw [es]
    generalize (frs p).reverse = L at ep
    generalize hd p = h at ep hv' hi nn hb
    by_cases ht : ∃ a x b, h = .take a x b
    · obtain ⟨a, x, b, rfl⟩ := ht
      have er := to_round_D (k := k) (by omega) L S
      simp only [bdc] at hb
      simp only [Pc.d] at ep
      cases hr : rix L with
      | none =>
        rw [hr] at er
        simp [bodies, varK_1, eVar_u, eC_u, aNil_u, acK1_1, acK2_1, aCons_u, tupK_1, eTup_u, ldK_1, lDisp_u, eLK_1, eLMK_1, eL_u, eLM_u, eDiK_1, eDMK_1, eDi_u, eDM_u, opK1_1, opK2_1, opK3_1, eOp_u, negK_1, eNeg_u, slK1_1, slK2_1, slK3_1, slK4_1, ptSK_1, ptN_u, ptS_u, eSlice_u, callK_1, eCall_u, biK_1, blK_1, blK2_1, eBi_u, lBi_u, isiK_1, isiK2_1, eIsi_u, revK_1, revK2_1, lRev_u, andEK_1, andEK_2, orEK_1, orEK_2, notEK_1, orSK_1, ifEK_1, ifEK_2, tofK_1, eAnd_u, eOr_u, eNot_u, eOrS_u, eIf_u, tOf_u, chK1_1, chK2_1, chK3_1, chK3_2, eChain_u, tandK_1, tandK_2, torK_1, torK_2, tnotK_1, tTrue_u, tfAnd_u, tfOr_u, tfNot_u, lcK1_1, lcK2_1, lcK3_1, lcK3_2, lcK4_1, lcK5_1, lcD_n, lcD_c, aLc_u, wipeD_n, wipeD_c, gdName_u, gsK_1, gsNil_u, gdTup_u, gsCons_u, iseqK_1, iseqK2_1, itupK_1, istrK_1, irng1K_1, irng2K_1, seqP_1, seqP_2, iSeq_u, iTupD_u, iStrD_u, iRange1_u, iRange2_u, m1K_1, m1K2_1, m0K_1, s1K_1, eMeth1_u, eMeth0_u, eS1_u, setK_1, asgK_1, asgK2_1, retK_1, expK_1, seqK_1, seqK_2, seqK_3, ifK_1, ifK_2, forK_1, forD_n, forK2_1, forK3_1, forK3_2, forK3_3, fnK_1, fnK_2, gcK_1, sNext_u, sBrk_u, stK_1, stK0_1, stK1_1, stK2_1, sSet_u, sAsg_u, sRet_u, sExp_u, sSeq_u, sIf_u, sFor_u, forD_c, fnD_u, gcFn_u, sSetIx_u, dAdd_i, dAdd_s, dAdd_t, dAdd_l, dSub_i, dCmp_i, dEq_s, dEq_i, dEq_b, dNe_s, dNe_i, dNe_b, dIx_t, dIx_l, dIx_c, dSlice_t, dSlice_l, dSlice_c, dSlice_s, bLen_t, bLen_l, bLen_s, bTup_t, bTup_l, blList_t, blList_l, bInt_i, bInt_t, bInt_f, bMin_i, dIsN_1, dIsN_2, seqL_l, seqL_c, dMod_i, dDiv_i, dMul_r, dMul_l, bLen_c, gc_same, pow12, dicS_d, dicO_1, keyO_s, keyO_i, dgK_1, dgK2_1, diK_1, diK2_f, diK2_t, valD_n, mergeD_n, mergeD_c, putD_n, ienK_1, ppNil_u, ppK_1, ppK2_1, ppK3_1, keysD_n, kdK_1, kdK2_1, ddK_1, ddK2_1, g2K_1, g2K1_1, g2K2_1, g2K3_1, g2K4_1, isDic_d, dpK_1, dpK1_1, dpK2_1, dpK3_1, dbK_1, dbK2_1, bdCopy_1, ddNew_u, dicS_r, dGet_u, dInK_u, valD_c, putD_c, iEnumD_u, ppCons_u, keysD_c, ddDisp_u, eGet2_u, sDput_u, ddCopy_u, List.map_cons, List.map_nil, List.length_cons, List.length_nil, List.cons_append, List.nil_append, List.append_nil, List.getElem?_cons_zero, List.getElem?_cons_succ, List.set_cons_zero, List.set_cons_succ, ofString_inj, ofString_beq, b_stepped_t1, b_stepped_t2, ev, ep, er, rixD, isNon, atI, ixN, gdTup, gsCons, gsNil, gdName, stepH, hr, Stp.d]
      | some n =>
        rw [hr] at er
        have e1 := put_in_D x (.kept a (L.take n)) b k S (by omega)
        have e2 := plugged_D (k := k) (by omega) (L.drop n) (put x (.kept a (L.take n)) b) S
        simp only [Pc.d] at e1
        simp [bodies, varK_1, eVar_u, eC_u, aNil_u, acK1_1, acK2_1, aCons_u, tupK_1, eTup_u, ldK_1, lDisp_u, eLK_1, eLMK_1, eL_u, eLM_u, eDiK_1, eDMK_1, eDi_u, eDM_u, opK1_1, opK2_1, opK3_1, eOp_u, negK_1, eNeg_u, slK1_1, slK2_1, slK3_1, slK4_1, ptSK_1, ptN_u, ptS_u, eSlice_u, callK_1, eCall_u, biK_1, blK_1, blK2_1, eBi_u, lBi_u, isiK_1, isiK2_1, eIsi_u, revK_1, revK2_1, lRev_u, andEK_1, andEK_2, orEK_1, orEK_2, notEK_1, orSK_1, ifEK_1, ifEK_2, tofK_1, eAnd_u, eOr_u, eNot_u, eOrS_u, eIf_u, tOf_u, chK1_1, chK2_1, chK3_1, chK3_2, eChain_u, tandK_1, tandK_2, torK_1, torK_2, tnotK_1, tTrue_u, tfAnd_u, tfOr_u, tfNot_u, lcK1_1, lcK2_1, lcK3_1, lcK3_2, lcK4_1, lcK5_1, lcD_n, lcD_c, aLc_u, wipeD_n, wipeD_c, gdName_u, gsK_1, gsNil_u, gdTup_u, gsCons_u, iseqK_1, iseqK2_1, itupK_1, istrK_1, irng1K_1, irng2K_1, seqP_1, seqP_2, iSeq_u, iTupD_u, iStrD_u, iRange1_u, iRange2_u, m1K_1, m1K2_1, m0K_1, s1K_1, eMeth1_u, eMeth0_u, eS1_u, setK_1, asgK_1, asgK2_1, retK_1, expK_1, seqK_1, seqK_2, seqK_3, ifK_1, ifK_2, forK_1, forD_n, forK2_1, forK3_1, forK3_2, forK3_3, fnK_1, fnK_2, gcK_1, sNext_u, sBrk_u, stK_1, stK0_1, stK1_1, stK2_1, sSet_u, sAsg_u, sRet_u, sExp_u, sSeq_u, sIf_u, sFor_u, forD_c, fnD_u, gcFn_u, sSetIx_u, dAdd_i, dAdd_s, dAdd_t, dAdd_l, dSub_i, dCmp_i, dEq_s, dEq_i, dEq_b, dNe_s, dNe_i, dNe_b, dIx_t, dIx_l, dIx_c, dSlice_t, dSlice_l, dSlice_c, dSlice_s, bLen_t, bLen_l, bLen_s, bTup_t, bTup_l, blList_t, blList_l, bInt_i, bInt_t, bInt_f, bMin_i, dIsN_1, dIsN_2, seqL_l, seqL_c, dMod_i, dDiv_i, dMul_r, dMul_l, bLen_c, gc_same, pow12, dicS_d, dicO_1, keyO_s, keyO_i, dgK_1, dgK2_1, diK_1, diK2_f, diK2_t, valD_n, mergeD_n, mergeD_c, putD_n, ienK_1, ppNil_u, ppK_1, ppK2_1, ppK3_1, keysD_n, kdK_1, kdK2_1, ddK_1, ddK2_1, g2K_1, g2K1_1, g2K2_1, g2K3_1, g2K4_1, isDic_d, dpK_1, dpK1_1, dpK2_1, dpK3_1, dbK_1, dbK2_1, bdCopy_1, ddNew_u, dicS_r, dGet_u, dInK_u, valD_c, putD_c, iEnumD_u, ppCons_u, keysD_c, ddDisp_u, eGet2_u, sDput_u, ddCopy_u, List.map_cons, List.map_nil, List.length_cons, List.length_nil, List.cons_append, List.nil_append, List.append_nil, List.getElem?_cons_zero, List.getElem?_cons_succ, List.set_cons_zero, List.set_cons_succ, ofString_inj, ofString_beq, b_stepped_t1, b_stepped_t2, ev, ep, er, rixD, isNon, atI, ixN, gdTup, gsCons, gsNil, gdName, stepH, hr, Stp.d, cut_take, cut_drop, ds_take, ds_drop, e1, e2]
    · have ht' : ∀ a x b, h ≠ .take a x b := fun a x b e => ht ⟨a, x, b, e⟩
      have ed := done_here_D (k := k) h S hi hv' nn ht' (by omega) (by omega)
      have hh : dIx h.d (.int 0) S = some (.str (wd h)) ∧ wd h ≠ "take" ∧ (becomes h = none → dIx h.d (.int 1) S = some (.int (mk h))) ∧ stepH L h = match becomes h with | none => .stuck (mk h) | some q => .step (plug L q) := by
        cases h with
        | take a x b => exact absurd rfl (ht' a x b)
        | name x => exact absurd rfl (nn x)
        | num n => simp [Pc.isV] at hv'
        | shut b x c => simp [Pc.isV] at hv'
        | kept b fs => simp [Pc.isV] at hv'
        | fn a x b => exact ⟨by simp [Pc.d, dIx_t, atI, ixN, wd], by simp [wd, ofString_inj], by simp [becomes], rfl⟩
        | rnd b => exact ⟨by simp [Pc.d, dIx_t, atI, ixN, wd], by simp [wd, ofString_inj], by simp [becomes], rfl⟩
        | call a f g => exact ⟨by simp [Pc.d, dIx_t, atI, ixN, wd], by simp [wd, ofString_inj], by simp [Pc.d, dIx_t, atI, ixN, mk], rfl⟩
        | plus a f g => exact ⟨by simp [Pc.d, dIx_t, atI, ixN, wd], by simp [wd, ofString_inj], by simp [Pc.d, dIx_t, atI, ixN, mk], rfl⟩
        | pick a c f g => exact ⟨by simp [Pc.d, dIx_t, atI, ixN, wd], by simp [wd, ofString_inj], by simp [Pc.d, dIx_t, atI, ixN, mk], rfl⟩
      obtain ⟨h1, h2, h3, h4⟩ := hh
      have en := isNon_bec (becomes h)
      rw [h4]
      cases hq : becomes h with
      | none =>
        rw [hq] at ed en
        have h3 := h3 hq
        simp [bodies, varK_1, eVar_u, eC_u, aNil_u, acK1_1, acK2_1, aCons_u, tupK_1, eTup_u, ldK_1, lDisp_u, eLK_1, eLMK_1, eL_u, eLM_u, eDiK_1, eDMK_1, eDi_u, eDM_u, opK1_1, opK2_1, opK3_1, eOp_u, negK_1, eNeg_u, slK1_1, slK2_1, slK3_1, slK4_1, ptSK_1, ptN_u, ptS_u, eSlice_u, callK_1, eCall_u, biK_1, blK_1, blK2_1, eBi_u, lBi_u, isiK_1, isiK2_1, eIsi_u, revK_1, revK2_1, lRev_u, andEK_1, andEK_2, orEK_1, orEK_2, notEK_1, orSK_1, ifEK_1, ifEK_2, tofK_1, eAnd_u, eOr_u, eNot_u, eOrS_u, eIf_u, tOf_u, chK1_1, chK2_1, chK3_1, chK3_2, eChain_u, tandK_1, tandK_2, torK_1, torK_2, tnotK_1, tTrue_u, tfAnd_u, tfOr_u, tfNot_u, lcK1_1, lcK2_1, lcK3_1, lcK3_2, lcK4_1, lcK5_1, lcD_n, lcD_c, aLc_u, wipeD_n, wipeD_c, gdName_u, gsK_1, gsNil_u, gdTup_u, gsCons_u, iseqK_1, iseqK2_1, itupK_1, istrK_1, irng1K_1, irng2K_1, seqP_1, seqP_2, iSeq_u, iTupD_u, iStrD_u, iRange1_u, iRange2_u, m1K_1, m1K2_1, m0K_1, s1K_1, eMeth1_u, eMeth0_u, eS1_u, setK_1, asgK_1, asgK2_1, retK_1, expK_1, seqK_1, seqK_2, seqK_3, ifK_1, ifK_2, forK_1, forD_n, forK2_1, forK3_1, forK3_2, forK3_3, fnK_1, fnK_2, gcK_1, sNext_u, sBrk_u, stK_1, stK0_1, stK1_1, stK2_1, sSet_u, sAsg_u, sRet_u, sExp_u, sSeq_u, sIf_u, sFor_u, forD_c, fnD_u, gcFn_u, sSetIx_u, dAdd_i, dAdd_s, dAdd_t, dAdd_l, dSub_i, dCmp_i, dEq_s, dEq_i, dEq_b, dNe_s, dNe_i, dNe_b, dIx_t, dIx_l, dIx_c, dSlice_t, dSlice_l, dSlice_c, dSlice_s, bLen_t, bLen_l, bLen_s, bTup_t, bTup_l, blList_t, blList_l, bInt_i, bInt_t, bInt_f, bMin_i, dIsN_1, dIsN_2, seqL_l, seqL_c, dMod_i, dDiv_i, dMul_r, dMul_l, bLen_c, gc_same, pow12, dicS_d, dicO_1, keyO_s, keyO_i, dgK_1, dgK2_1, diK_1, diK2_f, diK2_t, valD_n, mergeD_n, mergeD_c, putD_n, ienK_1, ppNil_u, ppK_1, ppK2_1, ppK3_1, keysD_n, kdK_1, kdK2_1, ddK_1, ddK2_1, g2K_1, g2K1_1, g2K2_1, g2K3_1, g2K4_1, isDic_d, dpK_1, dpK1_1, dpK2_1, dpK3_1, dbK_1, dbK2_1, bdCopy_1, ddNew_u, dicS_r, dGet_u, dInK_u, valD_c, putD_c, iEnumD_u, ppCons_u, keysD_c, ddDisp_u, eGet2_u, sDput_u, ddCopy_u, List.map_cons, List.map_nil, List.length_cons, List.length_nil, List.cons_append, List.nil_append, List.append_nil, List.getElem?_cons_zero, List.getElem?_cons_succ, List.set_cons_zero, List.set_cons_succ, ofString_inj, ofString_beq, b_stepped_t1, b_stepped_t2, b_stepped_t3, b_stepped_t4, ev, ep, ed, en, h1, h2, h3, gdTup, gsCons, gsNil, gdName, Stp.d]
      | some q =>
        rw [hq] at ed en
        have e2 := plugged_D (k := k) (by omega) L q S
        have e2 : Fk k .plugged [.tup (Fr.ds L), becD (some q)] S = some ((plug L q).d, S) := e2
        simp [bodies, varK_1, eVar_u, eC_u, aNil_u, acK1_1, acK2_1, aCons_u, tupK_1, eTup_u, ldK_1, lDisp_u, eLK_1, eLMK_1, eL_u, eLM_u, eDiK_1, eDMK_1, eDi_u, eDM_u, opK1_1, opK2_1, opK3_1, eOp_u, negK_1, eNeg_u, slK1_1, slK2_1, slK3_1, slK4_1, ptSK_1, ptN_u, ptS_u, eSlice_u, callK_1, eCall_u, biK_1, blK_1, blK2_1, eBi_u, lBi_u, isiK_1, isiK2_1, eIsi_u, revK_1, revK2_1, lRev_u, andEK_1, andEK_2, orEK_1, orEK_2, notEK_1, orSK_1, ifEK_1, ifEK_2, tofK_1, eAnd_u, eOr_u, eNot_u, eOrS_u, eIf_u, tOf_u, chK1_1, chK2_1, chK3_1, chK3_2, eChain_u, tandK_1, tandK_2, torK_1, torK_2, tnotK_1, tTrue_u, tfAnd_u, tfOr_u, tfNot_u, lcK1_1, lcK2_1, lcK3_1, lcK3_2, lcK4_1, lcK5_1, lcD_n, lcD_c, aLc_u, wipeD_n, wipeD_c, gdName_u, gsK_1, gsNil_u, gdTup_u, gsCons_u, iseqK_1, iseqK2_1, itupK_1, istrK_1, irng1K_1, irng2K_1, seqP_1, seqP_2, iSeq_u, iTupD_u, iStrD_u, iRange1_u, iRange2_u, m1K_1, m1K2_1, m0K_1, s1K_1, eMeth1_u, eMeth0_u, eS1_u, setK_1, asgK_1, asgK2_1, retK_1, expK_1, seqK_1, seqK_2, seqK_3, ifK_1, ifK_2, forK_1, forD_n, forK2_1, forK3_1, forK3_2, forK3_3, fnK_1, fnK_2, gcK_1, sNext_u, sBrk_u, stK_1, stK0_1, stK1_1, stK2_1, sSet_u, sAsg_u, sRet_u, sExp_u, sSeq_u, sIf_u, sFor_u, forD_c, fnD_u, gcFn_u, sSetIx_u, dAdd_i, dAdd_s, dAdd_t, dAdd_l, dSub_i, dCmp_i, dEq_s, dEq_i, dEq_b, dNe_s, dNe_i, dNe_b, dIx_t, dIx_l, dIx_c, dSlice_t, dSlice_l, dSlice_c, dSlice_s, bLen_t, bLen_l, bLen_s, bTup_t, bTup_l, blList_t, blList_l, bInt_i, bInt_t, bInt_f, bMin_i, dIsN_1, dIsN_2, seqL_l, seqL_c, dMod_i, dDiv_i, dMul_r, dMul_l, bLen_c, gc_same, pow12, dicS_d, dicO_1, keyO_s, keyO_i, dgK_1, dgK2_1, diK_1, diK2_f, diK2_t, valD_n, mergeD_n, mergeD_c, putD_n, ienK_1, ppNil_u, ppK_1, ppK2_1, ppK3_1, keysD_n, kdK_1, kdK2_1, ddK_1, ddK2_1, g2K_1, g2K1_1, g2K2_1, g2K3_1, g2K4_1, isDic_d, dpK_1, dpK1_1, dpK2_1, dpK3_1, dbK_1, dbK2_1, bdCopy_1, ddNew_u, dicS_r, dGet_u, dInK_u, valD_c, putD_c, iEnumD_u, ppCons_u, keysD_c, ddDisp_u, eGet2_u, sDput_u, ddCopy_u, List.map_cons, List.map_nil, List.length_cons, List.length_nil, List.cons_append, List.nil_append, List.append_nil, List.getElem?_cons_zero, List.getElem?_cons_succ, List.set_cons_zero, List.set_cons_succ, ofString_inj, ofString_beq, b_stepped_t1, b_stepped_t2, b_stepped_t3, b_stepped_t4, b_stepped_t5, ev, ep, ed, en, h1, h2, e2, gdTup, gsCons, gsNil, gdName, Stp.d]
theorem value_D {k : Nat} (h : 1 ≤ k) (p : Pc) (S : List O) : Fk k ._law_value [p.d] S = some (.bl p.isV, S) := by
  obtain ⟨k, rfl⟩ := lev h
  rw [Fk_s]
  cases p <;> simp [bodies, varK_1, eVar_u, eC_u, aNil_u, acK1_1, acK2_1, aCons_u, tupK_1, eTup_u, ldK_1, lDisp_u, eLK_1, eLMK_1, eL_u, eLM_u, eDiK_1, eDMK_1, eDi_u, eDM_u, opK1_1, opK2_1, opK3_1, eOp_u, negK_1, eNeg_u, slK1_1, slK2_1, slK3_1, slK4_1, ptSK_1, ptN_u, ptS_u, eSlice_u, callK_1, eCall_u, biK_1, blK_1, blK2_1, eBi_u, lBi_u, isiK_1, isiK2_1, eIsi_u, revK_1, revK2_1, lRev_u, andEK_1, andEK_2, orEK_1, orEK_2, notEK_1, orSK_1, ifEK_1, ifEK_2, tofK_1, eAnd_u, eOr_u, eNot_u, eOrS_u, eIf_u, tOf_u, chK1_1, chK2_1, chK3_1, chK3_2, eChain_u, tandK_1, tandK_2, torK_1, torK_2, tnotK_1, tTrue_u, tfAnd_u, tfOr_u, tfNot_u, lcK1_1, lcK2_1, lcK3_1, lcK3_2, lcK4_1, lcK5_1, lcD_n, lcD_c, aLc_u, wipeD_n, wipeD_c, gdName_u, gsK_1, gsNil_u, gdTup_u, gsCons_u, iseqK_1, iseqK2_1, itupK_1, istrK_1, irng1K_1, irng2K_1, seqP_1, seqP_2, iSeq_u, iTupD_u, iStrD_u, iRange1_u, iRange2_u, m1K_1, m1K2_1, m0K_1, s1K_1, eMeth1_u, eMeth0_u, eS1_u, setK_1, asgK_1, asgK2_1, retK_1, expK_1, seqK_1, seqK_2, seqK_3, ifK_1, ifK_2, forK_1, forD_n, forK2_1, forK3_1, forK3_2, forK3_3, fnK_1, fnK_2, gcK_1, sNext_u, sBrk_u, stK_1, stK0_1, stK1_1, stK2_1, sSet_u, sAsg_u, sRet_u, sExp_u, sSeq_u, sIf_u, sFor_u, forD_c, fnD_u, gcFn_u, sSetIx_u, dAdd_i, dAdd_s, dAdd_t, dAdd_l, dSub_i, dCmp_i, dEq_s, dEq_i, dEq_b, dNe_s, dNe_i, dNe_b, dIx_t, dIx_l, dIx_c, dSlice_t, dSlice_l, dSlice_c, dSlice_s, bLen_t, bLen_l, bLen_s, bTup_t, bTup_l, blList_t, blList_l, bInt_i, bInt_t, bInt_f, bMin_i, dIsN_1, dIsN_2, seqL_l, seqL_c, dMod_i, dDiv_i, dMul_r, dMul_l, bLen_c, gc_same, pow12, dicS_d, dicO_1, keyO_s, keyO_i, dgK_1, dgK2_1, diK_1, diK2_f, diK2_t, valD_n, mergeD_n, mergeD_c, putD_n, ienK_1, ppNil_u, ppK_1, ppK2_1, ppK3_1, keysD_n, kdK_1, kdK2_1, ddK_1, ddK2_1, g2K_1, g2K1_1, g2K2_1, g2K3_1, g2K4_1, isDic_d, dpK_1, dpK1_1, dpK2_1, dpK3_1, dbK_1, dbK2_1, bdCopy_1, ddNew_u, dicS_r, dGet_u, dInK_u, valD_c, putD_c, iEnumD_u, ppCons_u, keysD_c, ddDisp_u, eGet2_u, sDput_u, ddCopy_u, List.map_cons, List.map_nil, List.length_cons, List.length_nil, List.cons_append, List.nil_append, List.append_nil, List.getElem?_cons_zero, List.getElem?_cons_succ, List.set_cons_zero, List.set_cons_succ, ofString_inj, ofString_beq, Pc.d, Pc.isV, atI, ixN, dIn, seqA, flatD, eqF]
theorem law_put_D (x : Str) (v : Pc) : ∀ (p : Pc) (k : Nat) (S : List O), cd p + 1 ≤ k → Fk k ._law_put [p.d, .str x, v.d] S = some ((put x v p).d, S)
  | p, 0, S, h => by omega
  | .num n, k + 1, S, h => by
    rw [Fk_s]
    have e := value_D (k := k) (by simp [cd] at h; omega) (.num n) S
    simp only [Pc.d, Pc.isV] at e
    simp [bodies, varK_1, eVar_u, eC_u, aNil_u, acK1_1, acK2_1, aCons_u, tupK_1, eTup_u, ldK_1, lDisp_u, eLK_1, eLMK_1, eL_u, eLM_u, eDiK_1, eDMK_1, eDi_u, eDM_u, opK1_1, opK2_1, opK3_1, eOp_u, negK_1, eNeg_u, slK1_1, slK2_1, slK3_1, slK4_1, ptSK_1, ptN_u, ptS_u, eSlice_u, callK_1, eCall_u, biK_1, blK_1, blK2_1, eBi_u, lBi_u, isiK_1, isiK2_1, eIsi_u, revK_1, revK2_1, lRev_u, andEK_1, andEK_2, orEK_1, orEK_2, notEK_1, orSK_1, ifEK_1, ifEK_2, tofK_1, eAnd_u, eOr_u, eNot_u, eOrS_u, eIf_u, tOf_u, chK1_1, chK2_1, chK3_1, chK3_2, eChain_u, tandK_1, tandK_2, torK_1, torK_2, tnotK_1, tTrue_u, tfAnd_u, tfOr_u, tfNot_u, lcK1_1, lcK2_1, lcK3_1, lcK3_2, lcK4_1, lcK5_1, lcD_n, lcD_c, aLc_u, wipeD_n, wipeD_c, gdName_u, gsK_1, gsNil_u, gdTup_u, gsCons_u, iseqK_1, iseqK2_1, itupK_1, istrK_1, irng1K_1, irng2K_1, seqP_1, seqP_2, iSeq_u, iTupD_u, iStrD_u, iRange1_u, iRange2_u, m1K_1, m1K2_1, m0K_1, s1K_1, eMeth1_u, eMeth0_u, eS1_u, setK_1, asgK_1, asgK2_1, retK_1, expK_1, seqK_1, seqK_2, seqK_3, ifK_1, ifK_2, forK_1, forD_n, forK2_1, forK3_1, forK3_2, forK3_3, fnK_1, fnK_2, gcK_1, sNext_u, sBrk_u, stK_1, stK0_1, stK1_1, stK2_1, sSet_u, sAsg_u, sRet_u, sExp_u, sSeq_u, sIf_u, sFor_u, forD_c, fnD_u, gcFn_u, sSetIx_u, dAdd_i, dAdd_s, dAdd_t, dAdd_l, dSub_i, dCmp_i, dEq_s, dEq_i, dEq_b, dNe_s, dNe_i, dNe_b, dIx_t, dIx_l, dIx_c, dSlice_t, dSlice_l, dSlice_c, dSlice_s, bLen_t, bLen_l, bLen_s, bTup_t, bTup_l, blList_t, blList_l, bInt_i, bInt_t, bInt_f, bMin_i, dIsN_1, dIsN_2, seqL_l, seqL_c, dMod_i, dDiv_i, dMul_r, dMul_l, bLen_c, gc_same, pow12, dicS_d, dicO_1, keyO_s, keyO_i, dgK_1, dgK2_1, diK_1, diK2_f, diK2_t, valD_n, mergeD_n, mergeD_c, putD_n, ienK_1, ppNil_u, ppK_1, ppK2_1, ppK3_1, keysD_n, kdK_1, kdK2_1, ddK_1, ddK2_1, g2K_1, g2K1_1, g2K2_1, g2K3_1, g2K4_1, isDic_d, dpK_1, dpK1_1, dpK2_1, dpK3_1, dbK_1, dbK2_1, bdCopy_1, ddNew_u, dicS_r, dGet_u, dInK_u, valD_c, putD_c, iEnumD_u, ppCons_u, keysD_c, ddDisp_u, eGet2_u, sDput_u, ddCopy_u, List.map_cons, List.map_nil, List.length_cons, List.length_nil, List.cons_append, List.nil_append, List.append_nil, List.getElem?_cons_zero, List.getElem?_cons_succ, List.set_cons_zero, List.set_cons_succ, ofString_inj, ofString_beq, e, Pc.isV, put, Pc.d]
  | .shut a y b, k + 1, S, h => by
    rw [Fk_s]
    have e := value_D (k := k) (by simp [cd] at h; omega) (.shut a y b) S
    simp only [Pc.d, Pc.isV] at e
    simp [bodies, varK_1, eVar_u, eC_u, aNil_u, acK1_1, acK2_1, aCons_u, tupK_1, eTup_u, ldK_1, lDisp_u, eLK_1, eLMK_1, eL_u, eLM_u, eDiK_1, eDMK_1, eDi_u, eDM_u, opK1_1, opK2_1, opK3_1, eOp_u, negK_1, eNeg_u, slK1_1, slK2_1, slK3_1, slK4_1, ptSK_1, ptN_u, ptS_u, eSlice_u, callK_1, eCall_u, biK_1, blK_1, blK2_1, eBi_u, lBi_u, isiK_1, isiK2_1, eIsi_u, revK_1, revK2_1, lRev_u, andEK_1, andEK_2, orEK_1, orEK_2, notEK_1, orSK_1, ifEK_1, ifEK_2, tofK_1, eAnd_u, eOr_u, eNot_u, eOrS_u, eIf_u, tOf_u, chK1_1, chK2_1, chK3_1, chK3_2, eChain_u, tandK_1, tandK_2, torK_1, torK_2, tnotK_1, tTrue_u, tfAnd_u, tfOr_u, tfNot_u, lcK1_1, lcK2_1, lcK3_1, lcK3_2, lcK4_1, lcK5_1, lcD_n, lcD_c, aLc_u, wipeD_n, wipeD_c, gdName_u, gsK_1, gsNil_u, gdTup_u, gsCons_u, iseqK_1, iseqK2_1, itupK_1, istrK_1, irng1K_1, irng2K_1, seqP_1, seqP_2, iSeq_u, iTupD_u, iStrD_u, iRange1_u, iRange2_u, m1K_1, m1K2_1, m0K_1, s1K_1, eMeth1_u, eMeth0_u, eS1_u, setK_1, asgK_1, asgK2_1, retK_1, expK_1, seqK_1, seqK_2, seqK_3, ifK_1, ifK_2, forK_1, forD_n, forK2_1, forK3_1, forK3_2, forK3_3, fnK_1, fnK_2, gcK_1, sNext_u, sBrk_u, stK_1, stK0_1, stK1_1, stK2_1, sSet_u, sAsg_u, sRet_u, sExp_u, sSeq_u, sIf_u, sFor_u, forD_c, fnD_u, gcFn_u, sSetIx_u, dAdd_i, dAdd_s, dAdd_t, dAdd_l, dSub_i, dCmp_i, dEq_s, dEq_i, dEq_b, dNe_s, dNe_i, dNe_b, dIx_t, dIx_l, dIx_c, dSlice_t, dSlice_l, dSlice_c, dSlice_s, bLen_t, bLen_l, bLen_s, bTup_t, bTup_l, blList_t, blList_l, bInt_i, bInt_t, bInt_f, bMin_i, dIsN_1, dIsN_2, seqL_l, seqL_c, dMod_i, dDiv_i, dMul_r, dMul_l, bLen_c, gc_same, pow12, dicS_d, dicO_1, keyO_s, keyO_i, dgK_1, dgK2_1, diK_1, diK2_f, diK2_t, valD_n, mergeD_n, mergeD_c, putD_n, ienK_1, ppNil_u, ppK_1, ppK2_1, ppK3_1, keysD_n, kdK_1, kdK2_1, ddK_1, ddK2_1, g2K_1, g2K1_1, g2K2_1, g2K3_1, g2K4_1, isDic_d, dpK_1, dpK1_1, dpK2_1, dpK3_1, dbK_1, dbK2_1, bdCopy_1, ddNew_u, dicS_r, dGet_u, dInK_u, valD_c, putD_c, iEnumD_u, ppCons_u, keysD_c, ddDisp_u, eGet2_u, sDput_u, ddCopy_u, List.map_cons, List.map_nil, List.length_cons, List.length_nil, List.cons_append, List.nil_append, List.append_nil, List.getElem?_cons_zero, List.getElem?_cons_succ, List.set_cons_zero, List.set_cons_succ, ofString_inj, ofString_beq, e, Pc.isV, put, Pc.d]
  | .kept a fs, k + 1, S, h => by
    rw [Fk_s]
    have e := value_D (k := k) (by simp [cd] at h; omega) (.kept a fs) S
    simp only [Pc.d, Pc.isV] at e
    simp [bodies, varK_1, eVar_u, eC_u, aNil_u, acK1_1, acK2_1, aCons_u, tupK_1, eTup_u, ldK_1, lDisp_u, eLK_1, eLMK_1, eL_u, eLM_u, eDiK_1, eDMK_1, eDi_u, eDM_u, opK1_1, opK2_1, opK3_1, eOp_u, negK_1, eNeg_u, slK1_1, slK2_1, slK3_1, slK4_1, ptSK_1, ptN_u, ptS_u, eSlice_u, callK_1, eCall_u, biK_1, blK_1, blK2_1, eBi_u, lBi_u, isiK_1, isiK2_1, eIsi_u, revK_1, revK2_1, lRev_u, andEK_1, andEK_2, orEK_1, orEK_2, notEK_1, orSK_1, ifEK_1, ifEK_2, tofK_1, eAnd_u, eOr_u, eNot_u, eOrS_u, eIf_u, tOf_u, chK1_1, chK2_1, chK3_1, chK3_2, eChain_u, tandK_1, tandK_2, torK_1, torK_2, tnotK_1, tTrue_u, tfAnd_u, tfOr_u, tfNot_u, lcK1_1, lcK2_1, lcK3_1, lcK3_2, lcK4_1, lcK5_1, lcD_n, lcD_c, aLc_u, wipeD_n, wipeD_c, gdName_u, gsK_1, gsNil_u, gdTup_u, gsCons_u, iseqK_1, iseqK2_1, itupK_1, istrK_1, irng1K_1, irng2K_1, seqP_1, seqP_2, iSeq_u, iTupD_u, iStrD_u, iRange1_u, iRange2_u, m1K_1, m1K2_1, m0K_1, s1K_1, eMeth1_u, eMeth0_u, eS1_u, setK_1, asgK_1, asgK2_1, retK_1, expK_1, seqK_1, seqK_2, seqK_3, ifK_1, ifK_2, forK_1, forD_n, forK2_1, forK3_1, forK3_2, forK3_3, fnK_1, fnK_2, gcK_1, sNext_u, sBrk_u, stK_1, stK0_1, stK1_1, stK2_1, sSet_u, sAsg_u, sRet_u, sExp_u, sSeq_u, sIf_u, sFor_u, forD_c, fnD_u, gcFn_u, sSetIx_u, dAdd_i, dAdd_s, dAdd_t, dAdd_l, dSub_i, dCmp_i, dEq_s, dEq_i, dEq_b, dNe_s, dNe_i, dNe_b, dIx_t, dIx_l, dIx_c, dSlice_t, dSlice_l, dSlice_c, dSlice_s, bLen_t, bLen_l, bLen_s, bTup_t, bTup_l, blList_t, blList_l, bInt_i, bInt_t, bInt_f, bMin_i, dIsN_1, dIsN_2, seqL_l, seqL_c, dMod_i, dDiv_i, dMul_r, dMul_l, bLen_c, gc_same, pow12, dicS_d, dicO_1, keyO_s, keyO_i, dgK_1, dgK2_1, diK_1, diK2_f, diK2_t, valD_n, mergeD_n, mergeD_c, putD_n, ienK_1, ppNil_u, ppK_1, ppK2_1, ppK3_1, keysD_n, kdK_1, kdK2_1, ddK_1, ddK2_1, g2K_1, g2K1_1, g2K2_1, g2K3_1, g2K4_1, isDic_d, dpK_1, dpK1_1, dpK2_1, dpK3_1, dbK_1, dbK2_1, bdCopy_1, ddNew_u, dicS_r, dGet_u, dInK_u, valD_c, putD_c, iEnumD_u, ppCons_u, keysD_c, ddDisp_u, eGet2_u, sDput_u, ddCopy_u, List.map_cons, List.map_nil, List.length_cons, List.length_nil, List.cons_append, List.nil_append, List.append_nil, List.getElem?_cons_zero, List.getElem?_cons_succ, List.set_cons_zero, List.set_cons_succ, ofString_inj, ofString_beq, e, Pc.isV, put, Pc.d]
  | .name y, k + 1, S, h => by
    rw [Fk_s]
    have e := value_D (k := k) (by simp [cd] at h; omega) (.name y) S
    simp only [Pc.d, Pc.isV] at e
    by_cases hy : y = x
    · subst hy
      simp [bodies, varK_1, eVar_u, eC_u, aNil_u, acK1_1, acK2_1, aCons_u, tupK_1, eTup_u, ldK_1, lDisp_u, eLK_1, eLMK_1, eL_u, eLM_u, eDiK_1, eDMK_1, eDi_u, eDM_u, opK1_1, opK2_1, opK3_1, eOp_u, negK_1, eNeg_u, slK1_1, slK2_1, slK3_1, slK4_1, ptSK_1, ptN_u, ptS_u, eSlice_u, callK_1, eCall_u, biK_1, blK_1, blK2_1, eBi_u, lBi_u, isiK_1, isiK2_1, eIsi_u, revK_1, revK2_1, lRev_u, andEK_1, andEK_2, orEK_1, orEK_2, notEK_1, orSK_1, ifEK_1, ifEK_2, tofK_1, eAnd_u, eOr_u, eNot_u, eOrS_u, eIf_u, tOf_u, chK1_1, chK2_1, chK3_1, chK3_2, eChain_u, tandK_1, tandK_2, torK_1, torK_2, tnotK_1, tTrue_u, tfAnd_u, tfOr_u, tfNot_u, lcK1_1, lcK2_1, lcK3_1, lcK3_2, lcK4_1, lcK5_1, lcD_n, lcD_c, aLc_u, wipeD_n, wipeD_c, gdName_u, gsK_1, gsNil_u, gdTup_u, gsCons_u, iseqK_1, iseqK2_1, itupK_1, istrK_1, irng1K_1, irng2K_1, seqP_1, seqP_2, iSeq_u, iTupD_u, iStrD_u, iRange1_u, iRange2_u, m1K_1, m1K2_1, m0K_1, s1K_1, eMeth1_u, eMeth0_u, eS1_u, setK_1, asgK_1, asgK2_1, retK_1, expK_1, seqK_1, seqK_2, seqK_3, ifK_1, ifK_2, forK_1, forD_n, forK2_1, forK3_1, forK3_2, forK3_3, fnK_1, fnK_2, gcK_1, sNext_u, sBrk_u, stK_1, stK0_1, stK1_1, stK2_1, sSet_u, sAsg_u, sRet_u, sExp_u, sSeq_u, sIf_u, sFor_u, forD_c, fnD_u, gcFn_u, sSetIx_u, dAdd_i, dAdd_s, dAdd_t, dAdd_l, dSub_i, dCmp_i, dEq_s, dEq_i, dEq_b, dNe_s, dNe_i, dNe_b, dIx_t, dIx_l, dIx_c, dSlice_t, dSlice_l, dSlice_c, dSlice_s, bLen_t, bLen_l, bLen_s, bTup_t, bTup_l, blList_t, blList_l, bInt_i, bInt_t, bInt_f, bMin_i, dIsN_1, dIsN_2, seqL_l, seqL_c, dMod_i, dDiv_i, dMul_r, dMul_l, bLen_c, gc_same, pow12, dicS_d, dicO_1, keyO_s, keyO_i, dgK_1, dgK2_1, diK_1, diK2_f, diK2_t, valD_n, mergeD_n, mergeD_c, putD_n, ienK_1, ppNil_u, ppK_1, ppK2_1, ppK3_1, keysD_n, kdK_1, kdK2_1, ddK_1, ddK2_1, g2K_1, g2K1_1, g2K2_1, g2K3_1, g2K4_1, isDic_d, dpK_1, dpK1_1, dpK2_1, dpK3_1, dbK_1, dbK2_1, bdCopy_1, ddNew_u, dicS_r, dGet_u, dInK_u, valD_c, putD_c, iEnumD_u, ppCons_u, keysD_c, ddDisp_u, eGet2_u, sDput_u, ddCopy_u, List.map_cons, List.map_nil, List.length_cons, List.length_nil, List.cons_append, List.nil_append, List.append_nil, List.getElem?_cons_zero, List.getElem?_cons_succ, List.set_cons_zero, List.set_cons_succ, ofString_inj, ofString_beq, e, Pc.isV, put, Pc.d, atI, ixN]
    · simp [bodies, varK_1, eVar_u, eC_u, aNil_u, acK1_1, acK2_1, aCons_u, tupK_1, eTup_u, ldK_1, lDisp_u, eLK_1, eLMK_1, eL_u, eLM_u, eDiK_1, eDMK_1, eDi_u, eDM_u, opK1_1, opK2_1, opK3_1, eOp_u, negK_1, eNeg_u, slK1_1, slK2_1, slK3_1, slK4_1, ptSK_1, ptN_u, ptS_u, eSlice_u, callK_1, eCall_u, biK_1, blK_1, blK2_1, eBi_u, lBi_u, isiK_1, isiK2_1, eIsi_u, revK_1, revK2_1, lRev_u, andEK_1, andEK_2, orEK_1, orEK_2, notEK_1, orSK_1, ifEK_1, ifEK_2, tofK_1, eAnd_u, eOr_u, eNot_u, eOrS_u, eIf_u, tOf_u, chK1_1, chK2_1, chK3_1, chK3_2, eChain_u, tandK_1, tandK_2, torK_1, torK_2, tnotK_1, tTrue_u, tfAnd_u, tfOr_u, tfNot_u, lcK1_1, lcK2_1, lcK3_1, lcK3_2, lcK4_1, lcK5_1, lcD_n, lcD_c, aLc_u, wipeD_n, wipeD_c, gdName_u, gsK_1, gsNil_u, gdTup_u, gsCons_u, iseqK_1, iseqK2_1, itupK_1, istrK_1, irng1K_1, irng2K_1, seqP_1, seqP_2, iSeq_u, iTupD_u, iStrD_u, iRange1_u, iRange2_u, m1K_1, m1K2_1, m0K_1, s1K_1, eMeth1_u, eMeth0_u, eS1_u, setK_1, asgK_1, asgK2_1, retK_1, expK_1, seqK_1, seqK_2, seqK_3, ifK_1, ifK_2, forK_1, forD_n, forK2_1, forK3_1, forK3_2, forK3_3, fnK_1, fnK_2, gcK_1, sNext_u, sBrk_u, stK_1, stK0_1, stK1_1, stK2_1, sSet_u, sAsg_u, sRet_u, sExp_u, sSeq_u, sIf_u, sFor_u, forD_c, fnD_u, gcFn_u, sSetIx_u, dAdd_i, dAdd_s, dAdd_t, dAdd_l, dSub_i, dCmp_i, dEq_s, dEq_i, dEq_b, dNe_s, dNe_i, dNe_b, dIx_t, dIx_l, dIx_c, dSlice_t, dSlice_l, dSlice_c, dSlice_s, bLen_t, bLen_l, bLen_s, bTup_t, bTup_l, blList_t, blList_l, bInt_i, bInt_t, bInt_f, bMin_i, dIsN_1, dIsN_2, seqL_l, seqL_c, dMod_i, dDiv_i, dMul_r, dMul_l, bLen_c, gc_same, pow12, dicS_d, dicO_1, keyO_s, keyO_i, dgK_1, dgK2_1, diK_1, diK2_f, diK2_t, valD_n, mergeD_n, mergeD_c, putD_n, ienK_1, ppNil_u, ppK_1, ppK2_1, ppK3_1, keysD_n, kdK_1, kdK2_1, ddK_1, ddK2_1, g2K_1, g2K1_1, g2K2_1, g2K3_1, g2K4_1, isDic_d, dpK_1, dpK1_1, dpK2_1, dpK3_1, dbK_1, dbK2_1, bdCopy_1, ddNew_u, dicS_r, dGet_u, dInK_u, valD_c, putD_c, iEnumD_u, ppCons_u, keysD_c, ddDisp_u, eGet2_u, sDput_u, ddCopy_u, List.map_cons, List.map_nil, List.length_cons, List.length_nil, List.cons_append, List.nil_append, List.append_nil, List.getElem?_cons_zero, List.getElem?_cons_succ, List.set_cons_zero, List.set_cons_succ, ofString_inj, ofString_beq, e, Pc.isV, put, Pc.d, atI, ixN, hy]
  | .fn a y b, k + 1, S, h => by
    rw [Fk_s]
    have e := value_D (k := k) (by simp [cd] at h; omega) (.fn a y b) S
    simp only [Pc.d, Pc.isV] at e
    have ih := law_put_D x v b k S (by simp [cd] at h; omega)
    by_cases hy : y = x
    · subst hy
      simp [bodies, varK_1, eVar_u, eC_u, aNil_u, acK1_1, acK2_1, aCons_u, tupK_1, eTup_u, ldK_1, lDisp_u, eLK_1, eLMK_1, eL_u, eLM_u, eDiK_1, eDMK_1, eDi_u, eDM_u, opK1_1, opK2_1, opK3_1, eOp_u, negK_1, eNeg_u, slK1_1, slK2_1, slK3_1, slK4_1, ptSK_1, ptN_u, ptS_u, eSlice_u, callK_1, eCall_u, biK_1, blK_1, blK2_1, eBi_u, lBi_u, isiK_1, isiK2_1, eIsi_u, revK_1, revK2_1, lRev_u, andEK_1, andEK_2, orEK_1, orEK_2, notEK_1, orSK_1, ifEK_1, ifEK_2, tofK_1, eAnd_u, eOr_u, eNot_u, eOrS_u, eIf_u, tOf_u, chK1_1, chK2_1, chK3_1, chK3_2, eChain_u, tandK_1, tandK_2, torK_1, torK_2, tnotK_1, tTrue_u, tfAnd_u, tfOr_u, tfNot_u, lcK1_1, lcK2_1, lcK3_1, lcK3_2, lcK4_1, lcK5_1, lcD_n, lcD_c, aLc_u, wipeD_n, wipeD_c, gdName_u, gsK_1, gsNil_u, gdTup_u, gsCons_u, iseqK_1, iseqK2_1, itupK_1, istrK_1, irng1K_1, irng2K_1, seqP_1, seqP_2, iSeq_u, iTupD_u, iStrD_u, iRange1_u, iRange2_u, m1K_1, m1K2_1, m0K_1, s1K_1, eMeth1_u, eMeth0_u, eS1_u, setK_1, asgK_1, asgK2_1, retK_1, expK_1, seqK_1, seqK_2, seqK_3, ifK_1, ifK_2, forK_1, forD_n, forK2_1, forK3_1, forK3_2, forK3_3, fnK_1, fnK_2, gcK_1, sNext_u, sBrk_u, stK_1, stK0_1, stK1_1, stK2_1, sSet_u, sAsg_u, sRet_u, sExp_u, sSeq_u, sIf_u, sFor_u, forD_c, fnD_u, gcFn_u, sSetIx_u, dAdd_i, dAdd_s, dAdd_t, dAdd_l, dSub_i, dCmp_i, dEq_s, dEq_i, dEq_b, dNe_s, dNe_i, dNe_b, dIx_t, dIx_l, dIx_c, dSlice_t, dSlice_l, dSlice_c, dSlice_s, bLen_t, bLen_l, bLen_s, bTup_t, bTup_l, blList_t, blList_l, bInt_i, bInt_t, bInt_f, bMin_i, dIsN_1, dIsN_2, seqL_l, seqL_c, dMod_i, dDiv_i, dMul_r, dMul_l, bLen_c, gc_same, pow12, dicS_d, dicO_1, keyO_s, keyO_i, dgK_1, dgK2_1, diK_1, diK2_f, diK2_t, valD_n, mergeD_n, mergeD_c, putD_n, ienK_1, ppNil_u, ppK_1, ppK2_1, ppK3_1, keysD_n, kdK_1, kdK2_1, ddK_1, ddK2_1, g2K_1, g2K1_1, g2K2_1, g2K3_1, g2K4_1, isDic_d, dpK_1, dpK1_1, dpK2_1, dpK3_1, dbK_1, dbK2_1, bdCopy_1, ddNew_u, dicS_r, dGet_u, dInK_u, valD_c, putD_c, iEnumD_u, ppCons_u, keysD_c, ddDisp_u, eGet2_u, sDput_u, ddCopy_u, List.map_cons, List.map_nil, List.length_cons, List.length_nil, List.cons_append, List.nil_append, List.append_nil, List.getElem?_cons_zero, List.getElem?_cons_succ, List.set_cons_zero, List.set_cons_succ, ofString_inj, ofString_beq, e, ih, Pc.isV, put, Pc.d, atI, ixN, dIn, seqA, flatD, eqF]
    · simp [bodies, varK_1, eVar_u, eC_u, aNil_u, acK1_1, acK2_1, aCons_u, tupK_1, eTup_u, ldK_1, lDisp_u, eLK_1, eLMK_1, eL_u, eLM_u, eDiK_1, eDMK_1, eDi_u, eDM_u, opK1_1, opK2_1, opK3_1, eOp_u, negK_1, eNeg_u, slK1_1, slK2_1, slK3_1, slK4_1, ptSK_1, ptN_u, ptS_u, eSlice_u, callK_1, eCall_u, biK_1, blK_1, blK2_1, eBi_u, lBi_u, isiK_1, isiK2_1, eIsi_u, revK_1, revK2_1, lRev_u, andEK_1, andEK_2, orEK_1, orEK_2, notEK_1, orSK_1, ifEK_1, ifEK_2, tofK_1, eAnd_u, eOr_u, eNot_u, eOrS_u, eIf_u, tOf_u, chK1_1, chK2_1, chK3_1, chK3_2, eChain_u, tandK_1, tandK_2, torK_1, torK_2, tnotK_1, tTrue_u, tfAnd_u, tfOr_u, tfNot_u, lcK1_1, lcK2_1, lcK3_1, lcK3_2, lcK4_1, lcK5_1, lcD_n, lcD_c, aLc_u, wipeD_n, wipeD_c, gdName_u, gsK_1, gsNil_u, gdTup_u, gsCons_u, iseqK_1, iseqK2_1, itupK_1, istrK_1, irng1K_1, irng2K_1, seqP_1, seqP_2, iSeq_u, iTupD_u, iStrD_u, iRange1_u, iRange2_u, m1K_1, m1K2_1, m0K_1, s1K_1, eMeth1_u, eMeth0_u, eS1_u, setK_1, asgK_1, asgK2_1, retK_1, expK_1, seqK_1, seqK_2, seqK_3, ifK_1, ifK_2, forK_1, forD_n, forK2_1, forK3_1, forK3_2, forK3_3, fnK_1, fnK_2, gcK_1, sNext_u, sBrk_u, stK_1, stK0_1, stK1_1, stK2_1, sSet_u, sAsg_u, sRet_u, sExp_u, sSeq_u, sIf_u, sFor_u, forD_c, fnD_u, gcFn_u, sSetIx_u, dAdd_i, dAdd_s, dAdd_t, dAdd_l, dSub_i, dCmp_i, dEq_s, dEq_i, dEq_b, dNe_s, dNe_i, dNe_b, dIx_t, dIx_l, dIx_c, dSlice_t, dSlice_l, dSlice_c, dSlice_s, bLen_t, bLen_l, bLen_s, bTup_t, bTup_l, blList_t, blList_l, bInt_i, bInt_t, bInt_f, bMin_i, dIsN_1, dIsN_2, seqL_l, seqL_c, dMod_i, dDiv_i, dMul_r, dMul_l, bLen_c, gc_same, pow12, dicS_d, dicO_1, keyO_s, keyO_i, dgK_1, dgK2_1, diK_1, diK2_f, diK2_t, valD_n, mergeD_n, mergeD_c, putD_n, ienK_1, ppNil_u, ppK_1, ppK2_1, ppK3_1, keysD_n, kdK_1, kdK2_1, ddK_1, ddK2_1, g2K_1, g2K1_1, g2K2_1, g2K3_1, g2K4_1, isDic_d, dpK_1, dpK1_1, dpK2_1, dpK3_1, dbK_1, dbK2_1, bdCopy_1, ddNew_u, dicS_r, dGet_u, dInK_u, valD_c, putD_c, iEnumD_u, ppCons_u, keysD_c, ddDisp_u, eGet2_u, sDput_u, ddCopy_u, List.map_cons, List.map_nil, List.length_cons, List.length_nil, List.cons_append, List.nil_append, List.append_nil, List.getElem?_cons_zero, List.getElem?_cons_succ, List.set_cons_zero, List.set_cons_succ, ofString_inj, ofString_beq, e, ih, Pc.isV, put, Pc.d, atI, ixN, hy, dIn, seqA, flatD, eqF]
  | .take a y b, k + 1, S, h => by
    rw [Fk_s]
    have e := value_D (k := k) (by simp [cd] at h; omega) (.take a y b) S
    simp only [Pc.d, Pc.isV] at e
    have ih := law_put_D x v b k S (by simp [cd] at h; omega)
    by_cases hy : y = x
    · subst hy
      simp [bodies, varK_1, eVar_u, eC_u, aNil_u, acK1_1, acK2_1, aCons_u, tupK_1, eTup_u, ldK_1, lDisp_u, eLK_1, eLMK_1, eL_u, eLM_u, eDiK_1, eDMK_1, eDi_u, eDM_u, opK1_1, opK2_1, opK3_1, eOp_u, negK_1, eNeg_u, slK1_1, slK2_1, slK3_1, slK4_1, ptSK_1, ptN_u, ptS_u, eSlice_u, callK_1, eCall_u, biK_1, blK_1, blK2_1, eBi_u, lBi_u, isiK_1, isiK2_1, eIsi_u, revK_1, revK2_1, lRev_u, andEK_1, andEK_2, orEK_1, orEK_2, notEK_1, orSK_1, ifEK_1, ifEK_2, tofK_1, eAnd_u, eOr_u, eNot_u, eOrS_u, eIf_u, tOf_u, chK1_1, chK2_1, chK3_1, chK3_2, eChain_u, tandK_1, tandK_2, torK_1, torK_2, tnotK_1, tTrue_u, tfAnd_u, tfOr_u, tfNot_u, lcK1_1, lcK2_1, lcK3_1, lcK3_2, lcK4_1, lcK5_1, lcD_n, lcD_c, aLc_u, wipeD_n, wipeD_c, gdName_u, gsK_1, gsNil_u, gdTup_u, gsCons_u, iseqK_1, iseqK2_1, itupK_1, istrK_1, irng1K_1, irng2K_1, seqP_1, seqP_2, iSeq_u, iTupD_u, iStrD_u, iRange1_u, iRange2_u, m1K_1, m1K2_1, m0K_1, s1K_1, eMeth1_u, eMeth0_u, eS1_u, setK_1, asgK_1, asgK2_1, retK_1, expK_1, seqK_1, seqK_2, seqK_3, ifK_1, ifK_2, forK_1, forD_n, forK2_1, forK3_1, forK3_2, forK3_3, fnK_1, fnK_2, gcK_1, sNext_u, sBrk_u, stK_1, stK0_1, stK1_1, stK2_1, sSet_u, sAsg_u, sRet_u, sExp_u, sSeq_u, sIf_u, sFor_u, forD_c, fnD_u, gcFn_u, sSetIx_u, dAdd_i, dAdd_s, dAdd_t, dAdd_l, dSub_i, dCmp_i, dEq_s, dEq_i, dEq_b, dNe_s, dNe_i, dNe_b, dIx_t, dIx_l, dIx_c, dSlice_t, dSlice_l, dSlice_c, dSlice_s, bLen_t, bLen_l, bLen_s, bTup_t, bTup_l, blList_t, blList_l, bInt_i, bInt_t, bInt_f, bMin_i, dIsN_1, dIsN_2, seqL_l, seqL_c, dMod_i, dDiv_i, dMul_r, dMul_l, bLen_c, gc_same, pow12, dicS_d, dicO_1, keyO_s, keyO_i, dgK_1, dgK2_1, diK_1, diK2_f, diK2_t, valD_n, mergeD_n, mergeD_c, putD_n, ienK_1, ppNil_u, ppK_1, ppK2_1, ppK3_1, keysD_n, kdK_1, kdK2_1, ddK_1, ddK2_1, g2K_1, g2K1_1, g2K2_1, g2K3_1, g2K4_1, isDic_d, dpK_1, dpK1_1, dpK2_1, dpK3_1, dbK_1, dbK2_1, bdCopy_1, ddNew_u, dicS_r, dGet_u, dInK_u, valD_c, putD_c, iEnumD_u, ppCons_u, keysD_c, ddDisp_u, eGet2_u, sDput_u, ddCopy_u, List.map_cons, List.map_nil, List.length_cons, List.length_nil, List.cons_append, List.nil_append, List.append_nil, List.getElem?_cons_zero, List.getElem?_cons_succ, List.set_cons_zero, List.set_cons_succ, ofString_inj, ofString_beq, e, ih, Pc.isV, put, Pc.d, atI, ixN, dIn, seqA, flatD, eqF]
    · simp [bodies, varK_1, eVar_u, eC_u, aNil_u, acK1_1, acK2_1, aCons_u, tupK_1, eTup_u, ldK_1, lDisp_u, eLK_1, eLMK_1, eL_u, eLM_u, eDiK_1, eDMK_1, eDi_u, eDM_u, opK1_1, opK2_1, opK3_1, eOp_u, negK_1, eNeg_u, slK1_1, slK2_1, slK3_1, slK4_1, ptSK_1, ptN_u, ptS_u, eSlice_u, callK_1, eCall_u, biK_1, blK_1, blK2_1, eBi_u, lBi_u, isiK_1, isiK2_1, eIsi_u, revK_1, revK2_1, lRev_u, andEK_1, andEK_2, orEK_1, orEK_2, notEK_1, orSK_1, ifEK_1, ifEK_2, tofK_1, eAnd_u, eOr_u, eNot_u, eOrS_u, eIf_u, tOf_u, chK1_1, chK2_1, chK3_1, chK3_2, eChain_u, tandK_1, tandK_2, torK_1, torK_2, tnotK_1, tTrue_u, tfAnd_u, tfOr_u, tfNot_u, lcK1_1, lcK2_1, lcK3_1, lcK3_2, lcK4_1, lcK5_1, lcD_n, lcD_c, aLc_u, wipeD_n, wipeD_c, gdName_u, gsK_1, gsNil_u, gdTup_u, gsCons_u, iseqK_1, iseqK2_1, itupK_1, istrK_1, irng1K_1, irng2K_1, seqP_1, seqP_2, iSeq_u, iTupD_u, iStrD_u, iRange1_u, iRange2_u, m1K_1, m1K2_1, m0K_1, s1K_1, eMeth1_u, eMeth0_u, eS1_u, setK_1, asgK_1, asgK2_1, retK_1, expK_1, seqK_1, seqK_2, seqK_3, ifK_1, ifK_2, forK_1, forD_n, forK2_1, forK3_1, forK3_2, forK3_3, fnK_1, fnK_2, gcK_1, sNext_u, sBrk_u, stK_1, stK0_1, stK1_1, stK2_1, sSet_u, sAsg_u, sRet_u, sExp_u, sSeq_u, sIf_u, sFor_u, forD_c, fnD_u, gcFn_u, sSetIx_u, dAdd_i, dAdd_s, dAdd_t, dAdd_l, dSub_i, dCmp_i, dEq_s, dEq_i, dEq_b, dNe_s, dNe_i, dNe_b, dIx_t, dIx_l, dIx_c, dSlice_t, dSlice_l, dSlice_c, dSlice_s, bLen_t, bLen_l, bLen_s, bTup_t, bTup_l, blList_t, blList_l, bInt_i, bInt_t, bInt_f, bMin_i, dIsN_1, dIsN_2, seqL_l, seqL_c, dMod_i, dDiv_i, dMul_r, dMul_l, bLen_c, gc_same, pow12, dicS_d, dicO_1, keyO_s, keyO_i, dgK_1, dgK2_1, diK_1, diK2_f, diK2_t, valD_n, mergeD_n, mergeD_c, putD_n, ienK_1, ppNil_u, ppK_1, ppK2_1, ppK3_1, keysD_n, kdK_1, kdK2_1, ddK_1, ddK2_1, g2K_1, g2K1_1, g2K2_1, g2K3_1, g2K4_1, isDic_d, dpK_1, dpK1_1, dpK2_1, dpK3_1, dbK_1, dbK2_1, bdCopy_1, ddNew_u, dicS_r, dGet_u, dInK_u, valD_c, putD_c, iEnumD_u, ppCons_u, keysD_c, ddDisp_u, eGet2_u, sDput_u, ddCopy_u, List.map_cons, List.map_nil, List.length_cons, List.length_nil, List.cons_append, List.nil_append, List.append_nil, List.getElem?_cons_zero, List.getElem?_cons_succ, List.set_cons_zero, List.set_cons_succ, ofString_inj, ofString_beq, e, ih, Pc.isV, put, Pc.d, atI, ixN, hy, dIn, seqA, flatD, eqF]
  | .rnd b, k + 1, S, h => by
    rw [Fk_s]
    have e := value_D (k := k) (by simp [cd] at h; omega) (.rnd b) S
    simp only [Pc.d, Pc.isV] at e
    have ih := law_put_D x v b k S (by simp [cd] at h; omega)
    simp [bodies, varK_1, eVar_u, eC_u, aNil_u, acK1_1, acK2_1, aCons_u, tupK_1, eTup_u, ldK_1, lDisp_u, eLK_1, eLMK_1, eL_u, eLM_u, eDiK_1, eDMK_1, eDi_u, eDM_u, opK1_1, opK2_1, opK3_1, eOp_u, negK_1, eNeg_u, slK1_1, slK2_1, slK3_1, slK4_1, ptSK_1, ptN_u, ptS_u, eSlice_u, callK_1, eCall_u, biK_1, blK_1, blK2_1, eBi_u, lBi_u, isiK_1, isiK2_1, eIsi_u, revK_1, revK2_1, lRev_u, andEK_1, andEK_2, orEK_1, orEK_2, notEK_1, orSK_1, ifEK_1, ifEK_2, tofK_1, eAnd_u, eOr_u, eNot_u, eOrS_u, eIf_u, tOf_u, chK1_1, chK2_1, chK3_1, chK3_2, eChain_u, tandK_1, tandK_2, torK_1, torK_2, tnotK_1, tTrue_u, tfAnd_u, tfOr_u, tfNot_u, lcK1_1, lcK2_1, lcK3_1, lcK3_2, lcK4_1, lcK5_1, lcD_n, lcD_c, aLc_u, wipeD_n, wipeD_c, gdName_u, gsK_1, gsNil_u, gdTup_u, gsCons_u, iseqK_1, iseqK2_1, itupK_1, istrK_1, irng1K_1, irng2K_1, seqP_1, seqP_2, iSeq_u, iTupD_u, iStrD_u, iRange1_u, iRange2_u, m1K_1, m1K2_1, m0K_1, s1K_1, eMeth1_u, eMeth0_u, eS1_u, setK_1, asgK_1, asgK2_1, retK_1, expK_1, seqK_1, seqK_2, seqK_3, ifK_1, ifK_2, forK_1, forD_n, forK2_1, forK3_1, forK3_2, forK3_3, fnK_1, fnK_2, gcK_1, sNext_u, sBrk_u, stK_1, stK0_1, stK1_1, stK2_1, sSet_u, sAsg_u, sRet_u, sExp_u, sSeq_u, sIf_u, sFor_u, forD_c, fnD_u, gcFn_u, sSetIx_u, dAdd_i, dAdd_s, dAdd_t, dAdd_l, dSub_i, dCmp_i, dEq_s, dEq_i, dEq_b, dNe_s, dNe_i, dNe_b, dIx_t, dIx_l, dIx_c, dSlice_t, dSlice_l, dSlice_c, dSlice_s, bLen_t, bLen_l, bLen_s, bTup_t, bTup_l, blList_t, blList_l, bInt_i, bInt_t, bInt_f, bMin_i, dIsN_1, dIsN_2, seqL_l, seqL_c, dMod_i, dDiv_i, dMul_r, dMul_l, bLen_c, gc_same, pow12, dicS_d, dicO_1, keyO_s, keyO_i, dgK_1, dgK2_1, diK_1, diK2_f, diK2_t, valD_n, mergeD_n, mergeD_c, putD_n, ienK_1, ppNil_u, ppK_1, ppK2_1, ppK3_1, keysD_n, kdK_1, kdK2_1, ddK_1, ddK2_1, g2K_1, g2K1_1, g2K2_1, g2K3_1, g2K4_1, isDic_d, dpK_1, dpK1_1, dpK2_1, dpK3_1, dbK_1, dbK2_1, bdCopy_1, ddNew_u, dicS_r, dGet_u, dInK_u, valD_c, putD_c, iEnumD_u, ppCons_u, keysD_c, ddDisp_u, eGet2_u, sDput_u, ddCopy_u, List.map_cons, List.map_nil, List.length_cons, List.length_nil, List.cons_append, List.nil_append, List.append_nil, List.getElem?_cons_zero, List.getElem?_cons_succ, List.set_cons_zero, List.set_cons_succ, ofString_inj, ofString_beq, e, ih, Pc.isV, put, Pc.d, atI, ixN, dIn, seqA, flatD, eqF]
  | .call a f g, k + 1, S, h => by
    rw [Fk_s]
    have e := value_D (k := k) (by simp [cd] at h; omega) (.call a f g) S
    simp only [Pc.d, Pc.isV] at e
    have i1 := law_put_D x v f k S (by simp [cd] at h; omega)
    have i2 := law_put_D x v g k S (by simp [cd] at h; omega)
    simp [bodies, varK_1, eVar_u, eC_u, aNil_u, acK1_1, acK2_1, aCons_u, tupK_1, eTup_u, ldK_1, lDisp_u, eLK_1, eLMK_1, eL_u, eLM_u, eDiK_1, eDMK_1, eDi_u, eDM_u, opK1_1, opK2_1, opK3_1, eOp_u, negK_1, eNeg_u, slK1_1, slK2_1, slK3_1, slK4_1, ptSK_1, ptN_u, ptS_u, eSlice_u, callK_1, eCall_u, biK_1, blK_1, blK2_1, eBi_u, lBi_u, isiK_1, isiK2_1, eIsi_u, revK_1, revK2_1, lRev_u, andEK_1, andEK_2, orEK_1, orEK_2, notEK_1, orSK_1, ifEK_1, ifEK_2, tofK_1, eAnd_u, eOr_u, eNot_u, eOrS_u, eIf_u, tOf_u, chK1_1, chK2_1, chK3_1, chK3_2, eChain_u, tandK_1, tandK_2, torK_1, torK_2, tnotK_1, tTrue_u, tfAnd_u, tfOr_u, tfNot_u, lcK1_1, lcK2_1, lcK3_1, lcK3_2, lcK4_1, lcK5_1, lcD_n, lcD_c, aLc_u, wipeD_n, wipeD_c, gdName_u, gsK_1, gsNil_u, gdTup_u, gsCons_u, iseqK_1, iseqK2_1, itupK_1, istrK_1, irng1K_1, irng2K_1, seqP_1, seqP_2, iSeq_u, iTupD_u, iStrD_u, iRange1_u, iRange2_u, m1K_1, m1K2_1, m0K_1, s1K_1, eMeth1_u, eMeth0_u, eS1_u, setK_1, asgK_1, asgK2_1, retK_1, expK_1, seqK_1, seqK_2, seqK_3, ifK_1, ifK_2, forK_1, forD_n, forK2_1, forK3_1, forK3_2, forK3_3, fnK_1, fnK_2, gcK_1, sNext_u, sBrk_u, stK_1, stK0_1, stK1_1, stK2_1, sSet_u, sAsg_u, sRet_u, sExp_u, sSeq_u, sIf_u, sFor_u, forD_c, fnD_u, gcFn_u, sSetIx_u, dAdd_i, dAdd_s, dAdd_t, dAdd_l, dSub_i, dCmp_i, dEq_s, dEq_i, dEq_b, dNe_s, dNe_i, dNe_b, dIx_t, dIx_l, dIx_c, dSlice_t, dSlice_l, dSlice_c, dSlice_s, bLen_t, bLen_l, bLen_s, bTup_t, bTup_l, blList_t, blList_l, bInt_i, bInt_t, bInt_f, bMin_i, dIsN_1, dIsN_2, seqL_l, seqL_c, dMod_i, dDiv_i, dMul_r, dMul_l, bLen_c, gc_same, pow12, dicS_d, dicO_1, keyO_s, keyO_i, dgK_1, dgK2_1, diK_1, diK2_f, diK2_t, valD_n, mergeD_n, mergeD_c, putD_n, ienK_1, ppNil_u, ppK_1, ppK2_1, ppK3_1, keysD_n, kdK_1, kdK2_1, ddK_1, ddK2_1, g2K_1, g2K1_1, g2K2_1, g2K3_1, g2K4_1, isDic_d, dpK_1, dpK1_1, dpK2_1, dpK3_1, dbK_1, dbK2_1, bdCopy_1, ddNew_u, dicS_r, dGet_u, dInK_u, valD_c, putD_c, iEnumD_u, ppCons_u, keysD_c, ddDisp_u, eGet2_u, sDput_u, ddCopy_u, List.map_cons, List.map_nil, List.length_cons, List.length_nil, List.cons_append, List.nil_append, List.append_nil, List.getElem?_cons_zero, List.getElem?_cons_succ, List.set_cons_zero, List.set_cons_succ, ofString_inj, ofString_beq, e, i1, i2, Pc.isV, put, Pc.d, atI, ixN, cut2, drop2, sizeLine_eq, dIn, seqA, flatD, eqF]
  | .plus a f g, k + 1, S, h => by
    rw [Fk_s]
    have e := value_D (k := k) (by simp [cd] at h; omega) (.plus a f g) S
    simp only [Pc.d, Pc.isV] at e
    have i1 := law_put_D x v f k S (by simp [cd] at h; omega)
    have i2 := law_put_D x v g k S (by simp [cd] at h; omega)
    simp [bodies, varK_1, eVar_u, eC_u, aNil_u, acK1_1, acK2_1, aCons_u, tupK_1, eTup_u, ldK_1, lDisp_u, eLK_1, eLMK_1, eL_u, eLM_u, eDiK_1, eDMK_1, eDi_u, eDM_u, opK1_1, opK2_1, opK3_1, eOp_u, negK_1, eNeg_u, slK1_1, slK2_1, slK3_1, slK4_1, ptSK_1, ptN_u, ptS_u, eSlice_u, callK_1, eCall_u, biK_1, blK_1, blK2_1, eBi_u, lBi_u, isiK_1, isiK2_1, eIsi_u, revK_1, revK2_1, lRev_u, andEK_1, andEK_2, orEK_1, orEK_2, notEK_1, orSK_1, ifEK_1, ifEK_2, tofK_1, eAnd_u, eOr_u, eNot_u, eOrS_u, eIf_u, tOf_u, chK1_1, chK2_1, chK3_1, chK3_2, eChain_u, tandK_1, tandK_2, torK_1, torK_2, tnotK_1, tTrue_u, tfAnd_u, tfOr_u, tfNot_u, lcK1_1, lcK2_1, lcK3_1, lcK3_2, lcK4_1, lcK5_1, lcD_n, lcD_c, aLc_u, wipeD_n, wipeD_c, gdName_u, gsK_1, gsNil_u, gdTup_u, gsCons_u, iseqK_1, iseqK2_1, itupK_1, istrK_1, irng1K_1, irng2K_1, seqP_1, seqP_2, iSeq_u, iTupD_u, iStrD_u, iRange1_u, iRange2_u, m1K_1, m1K2_1, m0K_1, s1K_1, eMeth1_u, eMeth0_u, eS1_u, setK_1, asgK_1, asgK2_1, retK_1, expK_1, seqK_1, seqK_2, seqK_3, ifK_1, ifK_2, forK_1, forD_n, forK2_1, forK3_1, forK3_2, forK3_3, fnK_1, fnK_2, gcK_1, sNext_u, sBrk_u, stK_1, stK0_1, stK1_1, stK2_1, sSet_u, sAsg_u, sRet_u, sExp_u, sSeq_u, sIf_u, sFor_u, forD_c, fnD_u, gcFn_u, sSetIx_u, dAdd_i, dAdd_s, dAdd_t, dAdd_l, dSub_i, dCmp_i, dEq_s, dEq_i, dEq_b, dNe_s, dNe_i, dNe_b, dIx_t, dIx_l, dIx_c, dSlice_t, dSlice_l, dSlice_c, dSlice_s, bLen_t, bLen_l, bLen_s, bTup_t, bTup_l, blList_t, blList_l, bInt_i, bInt_t, bInt_f, bMin_i, dIsN_1, dIsN_2, seqL_l, seqL_c, dMod_i, dDiv_i, dMul_r, dMul_l, bLen_c, gc_same, pow12, dicS_d, dicO_1, keyO_s, keyO_i, dgK_1, dgK2_1, diK_1, diK2_f, diK2_t, valD_n, mergeD_n, mergeD_c, putD_n, ienK_1, ppNil_u, ppK_1, ppK2_1, ppK3_1, keysD_n, kdK_1, kdK2_1, ddK_1, ddK2_1, g2K_1, g2K1_1, g2K2_1, g2K3_1, g2K4_1, isDic_d, dpK_1, dpK1_1, dpK2_1, dpK3_1, dbK_1, dbK2_1, bdCopy_1, ddNew_u, dicS_r, dGet_u, dInK_u, valD_c, putD_c, iEnumD_u, ppCons_u, keysD_c, ddDisp_u, eGet2_u, sDput_u, ddCopy_u, List.map_cons, List.map_nil, List.length_cons, List.length_nil, List.cons_append, List.nil_append, List.append_nil, List.getElem?_cons_zero, List.getElem?_cons_succ, List.set_cons_zero, List.set_cons_succ, ofString_inj, ofString_beq, e, i1, i2, Pc.isV, put, Pc.d, atI, ixN, cut2, drop2, sizeLine_eq, dIn, seqA, flatD, eqF]
  | .pick a c f g, k + 1, S, h => by
    rw [Fk_s]
    have e := value_D (k := k) (by simp [cd] at h; omega) (.pick a c f g) S
    simp only [Pc.d, Pc.isV] at e
    have i0 := law_put_D x v c k S (by simp [cd] at h; omega)
    have i1 := law_put_D x v f k S (by simp [cd] at h; omega)
    have i2 := law_put_D x v g k S (by simp [cd] at h; omega)
    simp [bodies, varK_1, eVar_u, eC_u, aNil_u, acK1_1, acK2_1, aCons_u, tupK_1, eTup_u, ldK_1, lDisp_u, eLK_1, eLMK_1, eL_u, eLM_u, eDiK_1, eDMK_1, eDi_u, eDM_u, opK1_1, opK2_1, opK3_1, eOp_u, negK_1, eNeg_u, slK1_1, slK2_1, slK3_1, slK4_1, ptSK_1, ptN_u, ptS_u, eSlice_u, callK_1, eCall_u, biK_1, blK_1, blK2_1, eBi_u, lBi_u, isiK_1, isiK2_1, eIsi_u, revK_1, revK2_1, lRev_u, andEK_1, andEK_2, orEK_1, orEK_2, notEK_1, orSK_1, ifEK_1, ifEK_2, tofK_1, eAnd_u, eOr_u, eNot_u, eOrS_u, eIf_u, tOf_u, chK1_1, chK2_1, chK3_1, chK3_2, eChain_u, tandK_1, tandK_2, torK_1, torK_2, tnotK_1, tTrue_u, tfAnd_u, tfOr_u, tfNot_u, lcK1_1, lcK2_1, lcK3_1, lcK3_2, lcK4_1, lcK5_1, lcD_n, lcD_c, aLc_u, wipeD_n, wipeD_c, gdName_u, gsK_1, gsNil_u, gdTup_u, gsCons_u, iseqK_1, iseqK2_1, itupK_1, istrK_1, irng1K_1, irng2K_1, seqP_1, seqP_2, iSeq_u, iTupD_u, iStrD_u, iRange1_u, iRange2_u, m1K_1, m1K2_1, m0K_1, s1K_1, eMeth1_u, eMeth0_u, eS1_u, setK_1, asgK_1, asgK2_1, retK_1, expK_1, seqK_1, seqK_2, seqK_3, ifK_1, ifK_2, forK_1, forD_n, forK2_1, forK3_1, forK3_2, forK3_3, fnK_1, fnK_2, gcK_1, sNext_u, sBrk_u, stK_1, stK0_1, stK1_1, stK2_1, sSet_u, sAsg_u, sRet_u, sExp_u, sSeq_u, sIf_u, sFor_u, forD_c, fnD_u, gcFn_u, sSetIx_u, dAdd_i, dAdd_s, dAdd_t, dAdd_l, dSub_i, dCmp_i, dEq_s, dEq_i, dEq_b, dNe_s, dNe_i, dNe_b, dIx_t, dIx_l, dIx_c, dSlice_t, dSlice_l, dSlice_c, dSlice_s, bLen_t, bLen_l, bLen_s, bTup_t, bTup_l, blList_t, blList_l, bInt_i, bInt_t, bInt_f, bMin_i, dIsN_1, dIsN_2, seqL_l, seqL_c, dMod_i, dDiv_i, dMul_r, dMul_l, bLen_c, gc_same, pow12, dicS_d, dicO_1, keyO_s, keyO_i, dgK_1, dgK2_1, diK_1, diK2_f, diK2_t, valD_n, mergeD_n, mergeD_c, putD_n, ienK_1, ppNil_u, ppK_1, ppK2_1, ppK3_1, keysD_n, kdK_1, kdK2_1, ddK_1, ddK2_1, g2K_1, g2K1_1, g2K2_1, g2K3_1, g2K4_1, isDic_d, dpK_1, dpK1_1, dpK2_1, dpK3_1, dbK_1, dbK2_1, bdCopy_1, ddNew_u, dicS_r, dGet_u, dInK_u, valD_c, putD_c, iEnumD_u, ppCons_u, keysD_c, ddDisp_u, eGet2_u, sDput_u, ddCopy_u, List.map_cons, List.map_nil, List.length_cons, List.length_nil, List.cons_append, List.nil_append, List.append_nil, List.getElem?_cons_zero, List.getElem?_cons_succ, List.set_cons_zero, List.set_cons_succ, ofString_inj, ofString_beq, e, i0, i1, i2, Pc.isV, put, Pc.d, atI, ixN, cut2, drop2, sizeLine_eq, dIn, seqA, flatD, eqF]
/-! ## the law's own step -/
def ind : Pc → Nat
  | .rnd b => if b.isV = true then 0 else 1
  | .pick _ c _ _ => if c.isV = true then 0 else 2
  | .call _ f g => if f.isV = true then (if g.isV = true then 0 else 3) else 2
  | .plus _ f g => if f.isV = true then (if g.isV = true then 0 else 3) else 2
  | _ => 0
def ln : Pc → List (Pc × Nat)
  | .rnd b => if b.isV = true then [] else (.rnd b, 1) :: ln b
  | .pick a c f g => if c.isV = true then [] else (.pick a c f g, 2) :: ln c
  | .call a f g => if f.isV = true then (if g.isV = true then [] else (.call a f g, 3) :: ln g) else (.call a f g, 2) :: ln f
  | .plus a f g => if f.isV = true then (if g.isV = true then [] else (.plus a f g, 3) :: ln g) else (.plus a f g, 2) :: ln f
  | _ => []
def entD (e : Pc × Nat) : D := .tup [e.1.d, .int (e.2 : Nat)]
def frOf (e : Pc × Nat) : Fr := match inn e.1 with | some (f, _) => f | none => .rnd
def PrE (e : Pc × Nat) : Prop := (∃ f q, inn e.1 = some (f, q)) ∧ e.2 = ind e.1
theorem ln_none {p : Pc} (h : inn p = none) : ln p = [] ∧ ind p = 0 := by
  cases p <;> simp only [inn, ln, ind] at h ⊢ <;> (try split at h) <;> (try split at h) <;> simp_all
theorem ln_some {p : Pc} {f : Fr} {q : Pc} (h : inn p = some (f, q)) : ln p = (p, ind p) :: ln q ∧ 0 < ind p := by
  cases p <;> simp only [inn, ln, ind] at h ⊢ <;> (try split at h) <;> (try split at h) <;> simp_all
theorem inn_ix {p : Pc} {f : Fr} {q : Pc} (h : inn p = some (f, q)) (S : List O) : dIx p.d (.int (ind p : Nat)) S = some q.d := by
  cases p <;> simp only [inn, ind] at h ⊢ <;> (try split at h) <;> (try split at h) <;> simp_all [Pc.d, dIx_t, atI, ixN]
theorem ln_fr (p : Pc) : (ln p).map frOf = frs p ∧ ∀ e ∈ ln p, PrE e := by
  induction p using frs_ind with
  | h0 p h => rw [(ln_none h).1, (inn_none h).1]; simp
  | h1 p f q h ih =>
    rw [(ln_some h).1, (inn_some h).1]
    refine ⟨?_, ?_⟩
    · rw [List.map_cons, ih.1]
      unfold frOf
      rw [h]
    · intro e he
      rcases List.mem_cons.mp he with z | z
      · subst z; exact ⟨⟨f, q, h⟩, rfl⟩
      · exact ih.2 e z
theorem inward_D {k : Nat} (hk : 2 ≤ k) (p : Pc) (S : List O) : Fk k ._law_inward [p.d] S = some (.int (ind p : Nat), S) := by
  obtain ⟨k, rfl⟩ : ∃ j, k = j + 1 := ⟨k - 1, by omega⟩
  rw [Fk_s]
  have e := fun q => value_D (k := k) (by omega) q S
  cases p with
  | rnd b => cases h : b.isV <;> simp [bodies, varK_1, eVar_u, eC_u, aNil_u, acK1_1, acK2_1, aCons_u, tupK_1, eTup_u, ldK_1, lDisp_u, eLK_1, eLMK_1, eL_u, eLM_u, eDiK_1, eDMK_1, eDi_u, eDM_u, opK1_1, opK2_1, opK3_1, eOp_u, negK_1, eNeg_u, slK1_1, slK2_1, slK3_1, slK4_1, ptSK_1, ptN_u, ptS_u, eSlice_u, callK_1, eCall_u, biK_1, blK_1, blK2_1, eBi_u, lBi_u, isiK_1, isiK2_1, eIsi_u, revK_1, revK2_1, lRev_u, andEK_1, andEK_2, orEK_1, orEK_2, notEK_1, orSK_1, ifEK_1, ifEK_2, tofK_1, eAnd_u, eOr_u, eNot_u, eOrS_u, eIf_u, tOf_u, chK1_1, chK2_1, chK3_1, chK3_2, eChain_u, tandK_1, tandK_2, torK_1, torK_2, tnotK_1, tTrue_u, tfAnd_u, tfOr_u, tfNot_u, lcK1_1, lcK2_1, lcK3_1, lcK3_2, lcK4_1, lcK5_1, lcD_n, lcD_c, aLc_u, wipeD_n, wipeD_c, gdName_u, gsK_1, gsNil_u, gdTup_u, gsCons_u, iseqK_1, iseqK2_1, itupK_1, istrK_1, irng1K_1, irng2K_1, seqP_1, seqP_2, iSeq_u, iTupD_u, iStrD_u, iRange1_u, iRange2_u, m1K_1, m1K2_1, m0K_1, s1K_1, eMeth1_u, eMeth0_u, eS1_u, setK_1, asgK_1, asgK2_1, retK_1, expK_1, seqK_1, seqK_2, seqK_3, ifK_1, ifK_2, forK_1, forD_n, forK2_1, forK3_1, forK3_2, forK3_3, fnK_1, fnK_2, gcK_1, sNext_u, sBrk_u, stK_1, stK0_1, stK1_1, stK2_1, sSet_u, sAsg_u, sRet_u, sExp_u, sSeq_u, sIf_u, sFor_u, forD_c, fnD_u, gcFn_u, sSetIx_u, dAdd_i, dAdd_s, dAdd_t, dAdd_l, dSub_i, dCmp_i, dEq_s, dEq_i, dEq_b, dNe_s, dNe_i, dNe_b, dIx_t, dIx_l, dIx_c, dSlice_t, dSlice_l, dSlice_c, dSlice_s, bLen_t, bLen_l, bLen_s, bTup_t, bTup_l, blList_t, blList_l, bInt_i, bInt_t, bInt_f, bMin_i, dIsN_1, dIsN_2, seqL_l, seqL_c, dMod_i, dDiv_i, dMul_r, dMul_l, bLen_c, gc_same, pow12, dicS_d, dicO_1, keyO_s, keyO_i, dgK_1, dgK2_1, diK_1, diK2_f, diK2_t, valD_n, mergeD_n, mergeD_c, putD_n, ienK_1, ppNil_u, ppK_1, ppK2_1, ppK3_1, keysD_n, kdK_1, kdK2_1, ddK_1, ddK2_1, g2K_1, g2K1_1, g2K2_1, g2K3_1, g2K4_1, isDic_d, dpK_1, dpK1_1, dpK2_1, dpK3_1, dbK_1, dbK2_1, bdCopy_1, ddNew_u, dicS_r, dGet_u, dInK_u, valD_c, putD_c, iEnumD_u, ppCons_u, keysD_c, ddDisp_u, eGet2_u, sDput_u, ddCopy_u, List.map_cons, List.map_nil, List.length_cons, List.length_nil, List.cons_append, List.nil_append, List.append_nil, List.getElem?_cons_zero, List.getElem?_cons_succ, List.set_cons_zero, List.set_cons_succ, ofString_inj, ofString_beq, e, h, ind, Pc.d, atI, ixN, dIn, seqA, flatD, eqF]
  | pick a c f g => cases h : c.isV <;> simp [bodies, varK_1, eVar_u, eC_u, aNil_u, acK1_1, acK2_1, aCons_u, tupK_1, eTup_u, ldK_1, lDisp_u, eLK_1, eLMK_1, eL_u, eLM_u, eDiK_1, eDMK_1, eDi_u, eDM_u, opK1_1, opK2_1, opK3_1, eOp_u, negK_1, eNeg_u, slK1_1, slK2_1, slK3_1, slK4_1, ptSK_1, ptN_u, ptS_u, eSlice_u, callK_1, eCall_u, biK_1, blK_1, blK2_1, eBi_u, lBi_u, isiK_1, isiK2_1, eIsi_u, revK_1, revK2_1, lRev_u, andEK_1, andEK_2, orEK_1, orEK_2, notEK_1, orSK_1, ifEK_1, ifEK_2, tofK_1, eAnd_u, eOr_u, eNot_u, eOrS_u, eIf_u, tOf_u, chK1_1, chK2_1, chK3_1, chK3_2, eChain_u, tandK_1, tandK_2, torK_1, torK_2, tnotK_1, tTrue_u, tfAnd_u, tfOr_u, tfNot_u, lcK1_1, lcK2_1, lcK3_1, lcK3_2, lcK4_1, lcK5_1, lcD_n, lcD_c, aLc_u, wipeD_n, wipeD_c, gdName_u, gsK_1, gsNil_u, gdTup_u, gsCons_u, iseqK_1, iseqK2_1, itupK_1, istrK_1, irng1K_1, irng2K_1, seqP_1, seqP_2, iSeq_u, iTupD_u, iStrD_u, iRange1_u, iRange2_u, m1K_1, m1K2_1, m0K_1, s1K_1, eMeth1_u, eMeth0_u, eS1_u, setK_1, asgK_1, asgK2_1, retK_1, expK_1, seqK_1, seqK_2, seqK_3, ifK_1, ifK_2, forK_1, forD_n, forK2_1, forK3_1, forK3_2, forK3_3, fnK_1, fnK_2, gcK_1, sNext_u, sBrk_u, stK_1, stK0_1, stK1_1, stK2_1, sSet_u, sAsg_u, sRet_u, sExp_u, sSeq_u, sIf_u, sFor_u, forD_c, fnD_u, gcFn_u, sSetIx_u, dAdd_i, dAdd_s, dAdd_t, dAdd_l, dSub_i, dCmp_i, dEq_s, dEq_i, dEq_b, dNe_s, dNe_i, dNe_b, dIx_t, dIx_l, dIx_c, dSlice_t, dSlice_l, dSlice_c, dSlice_s, bLen_t, bLen_l, bLen_s, bTup_t, bTup_l, blList_t, blList_l, bInt_i, bInt_t, bInt_f, bMin_i, dIsN_1, dIsN_2, seqL_l, seqL_c, dMod_i, dDiv_i, dMul_r, dMul_l, bLen_c, gc_same, pow12, dicS_d, dicO_1, keyO_s, keyO_i, dgK_1, dgK2_1, diK_1, diK2_f, diK2_t, valD_n, mergeD_n, mergeD_c, putD_n, ienK_1, ppNil_u, ppK_1, ppK2_1, ppK3_1, keysD_n, kdK_1, kdK2_1, ddK_1, ddK2_1, g2K_1, g2K1_1, g2K2_1, g2K3_1, g2K4_1, isDic_d, dpK_1, dpK1_1, dpK2_1, dpK3_1, dbK_1, dbK2_1, bdCopy_1, ddNew_u, dicS_r, dGet_u, dInK_u, valD_c, putD_c, iEnumD_u, ppCons_u, keysD_c, ddDisp_u, eGet2_u, sDput_u, ddCopy_u, List.map_cons, List.map_nil, List.length_cons, List.length_nil, List.cons_append, List.nil_append, List.append_nil, List.getElem?_cons_zero, List.getElem?_cons_succ, List.set_cons_zero, List.set_cons_succ, ofString_inj, ofString_beq, e, h, ind, Pc.d, atI, ixN, dIn, seqA, flatD, eqF]
  | call a f g => cases h : f.isV <;> cases h' : g.isV <;> simp [bodies, varK_1, eVar_u, eC_u, aNil_u, acK1_1, acK2_1, aCons_u, tupK_1, eTup_u, ldK_1, lDisp_u, eLK_1, eLMK_1, eL_u, eLM_u, eDiK_1, eDMK_1, eDi_u, eDM_u, opK1_1, opK2_1, opK3_1, eOp_u, negK_1, eNeg_u, slK1_1, slK2_1, slK3_1, slK4_1, ptSK_1, ptN_u, ptS_u, eSlice_u, callK_1, eCall_u, biK_1, blK_1, blK2_1, eBi_u, lBi_u, isiK_1, isiK2_1, eIsi_u, revK_1, revK2_1, lRev_u, andEK_1, andEK_2, orEK_1, orEK_2, notEK_1, orSK_1, ifEK_1, ifEK_2, tofK_1, eAnd_u, eOr_u, eNot_u, eOrS_u, eIf_u, tOf_u, chK1_1, chK2_1, chK3_1, chK3_2, eChain_u, tandK_1, tandK_2, torK_1, torK_2, tnotK_1, tTrue_u, tfAnd_u, tfOr_u, tfNot_u, lcK1_1, lcK2_1, lcK3_1, lcK3_2, lcK4_1, lcK5_1, lcD_n, lcD_c, aLc_u, wipeD_n, wipeD_c, gdName_u, gsK_1, gsNil_u, gdTup_u, gsCons_u, iseqK_1, iseqK2_1, itupK_1, istrK_1, irng1K_1, irng2K_1, seqP_1, seqP_2, iSeq_u, iTupD_u, iStrD_u, iRange1_u, iRange2_u, m1K_1, m1K2_1, m0K_1, s1K_1, eMeth1_u, eMeth0_u, eS1_u, setK_1, asgK_1, asgK2_1, retK_1, expK_1, seqK_1, seqK_2, seqK_3, ifK_1, ifK_2, forK_1, forD_n, forK2_1, forK3_1, forK3_2, forK3_3, fnK_1, fnK_2, gcK_1, sNext_u, sBrk_u, stK_1, stK0_1, stK1_1, stK2_1, sSet_u, sAsg_u, sRet_u, sExp_u, sSeq_u, sIf_u, sFor_u, forD_c, fnD_u, gcFn_u, sSetIx_u, dAdd_i, dAdd_s, dAdd_t, dAdd_l, dSub_i, dCmp_i, dEq_s, dEq_i, dEq_b, dNe_s, dNe_i, dNe_b, dIx_t, dIx_l, dIx_c, dSlice_t, dSlice_l, dSlice_c, dSlice_s, bLen_t, bLen_l, bLen_s, bTup_t, bTup_l, blList_t, blList_l, bInt_i, bInt_t, bInt_f, bMin_i, dIsN_1, dIsN_2, seqL_l, seqL_c, dMod_i, dDiv_i, dMul_r, dMul_l, bLen_c, gc_same, pow12, dicS_d, dicO_1, keyO_s, keyO_i, dgK_1, dgK2_1, diK_1, diK2_f, diK2_t, valD_n, mergeD_n, mergeD_c, putD_n, ienK_1, ppNil_u, ppK_1, ppK2_1, ppK3_1, keysD_n, kdK_1, kdK2_1, ddK_1, ddK2_1, g2K_1, g2K1_1, g2K2_1, g2K3_1, g2K4_1, isDic_d, dpK_1, dpK1_1, dpK2_1, dpK3_1, dbK_1, dbK2_1, bdCopy_1, ddNew_u, dicS_r, dGet_u, dInK_u, valD_c, putD_c, iEnumD_u, ppCons_u, keysD_c, ddDisp_u, eGet2_u, sDput_u, ddCopy_u, List.map_cons, List.map_nil, List.length_cons, List.length_nil, List.cons_append, List.nil_append, List.append_nil, List.getElem?_cons_zero, List.getElem?_cons_succ, List.set_cons_zero, List.set_cons_succ, ofString_inj, ofString_beq, e, h, h', ind, Pc.d, atI, ixN, dIn, seqA, flatD, eqF]
  | plus a f g => cases h : f.isV <;> cases h' : g.isV <;> simp [bodies, varK_1, eVar_u, eC_u, aNil_u, acK1_1, acK2_1, aCons_u, tupK_1, eTup_u, ldK_1, lDisp_u, eLK_1, eLMK_1, eL_u, eLM_u, eDiK_1, eDMK_1, eDi_u, eDM_u, opK1_1, opK2_1, opK3_1, eOp_u, negK_1, eNeg_u, slK1_1, slK2_1, slK3_1, slK4_1, ptSK_1, ptN_u, ptS_u, eSlice_u, callK_1, eCall_u, biK_1, blK_1, blK2_1, eBi_u, lBi_u, isiK_1, isiK2_1, eIsi_u, revK_1, revK2_1, lRev_u, andEK_1, andEK_2, orEK_1, orEK_2, notEK_1, orSK_1, ifEK_1, ifEK_2, tofK_1, eAnd_u, eOr_u, eNot_u, eOrS_u, eIf_u, tOf_u, chK1_1, chK2_1, chK3_1, chK3_2, eChain_u, tandK_1, tandK_2, torK_1, torK_2, tnotK_1, tTrue_u, tfAnd_u, tfOr_u, tfNot_u, lcK1_1, lcK2_1, lcK3_1, lcK3_2, lcK4_1, lcK5_1, lcD_n, lcD_c, aLc_u, wipeD_n, wipeD_c, gdName_u, gsK_1, gsNil_u, gdTup_u, gsCons_u, iseqK_1, iseqK2_1, itupK_1, istrK_1, irng1K_1, irng2K_1, seqP_1, seqP_2, iSeq_u, iTupD_u, iStrD_u, iRange1_u, iRange2_u, m1K_1, m1K2_1, m0K_1, s1K_1, eMeth1_u, eMeth0_u, eS1_u, setK_1, asgK_1, asgK2_1, retK_1, expK_1, seqK_1, seqK_2, seqK_3, ifK_1, ifK_2, forK_1, forD_n, forK2_1, forK3_1, forK3_2, forK3_3, fnK_1, fnK_2, gcK_1, sNext_u, sBrk_u, stK_1, stK0_1, stK1_1, stK2_1, sSet_u, sAsg_u, sRet_u, sExp_u, sSeq_u, sIf_u, sFor_u, forD_c, fnD_u, gcFn_u, sSetIx_u, dAdd_i, dAdd_s, dAdd_t, dAdd_l, dSub_i, dCmp_i, dEq_s, dEq_i, dEq_b, dNe_s, dNe_i, dNe_b, dIx_t, dIx_l, dIx_c, dSlice_t, dSlice_l, dSlice_c, dSlice_s, bLen_t, bLen_l, bLen_s, bTup_t, bTup_l, blList_t, blList_l, bInt_i, bInt_t, bInt_f, bMin_i, dIsN_1, dIsN_2, seqL_l, seqL_c, dMod_i, dDiv_i, dMul_r, dMul_l, bLen_c, gc_same, pow12, dicS_d, dicO_1, keyO_s, keyO_i, dgK_1, dgK2_1, diK_1, diK2_f, diK2_t, valD_n, mergeD_n, mergeD_c, putD_n, ienK_1, ppNil_u, ppK_1, ppK2_1, ppK3_1, keysD_n, kdK_1, kdK2_1, ddK_1, ddK2_1, g2K_1, g2K1_1, g2K2_1, g2K3_1, g2K4_1, isDic_d, dpK_1, dpK1_1, dpK2_1, dpK3_1, dbK_1, dbK2_1, bdCopy_1, ddNew_u, dicS_r, dGet_u, dInK_u, valD_c, putD_c, iEnumD_u, ppCons_u, keysD_c, ddDisp_u, eGet2_u, sDput_u, ddCopy_u, List.map_cons, List.map_nil, List.length_cons, List.length_nil, List.cons_append, List.nil_append, List.append_nil, List.getElem?_cons_zero, List.getElem?_cons_succ, List.set_cons_zero, List.set_cons_succ, ofString_inj, ofString_beq, e, h, h', ind, Pc.d, atI, ixN, dIn, seqA, flatD, eqF]
  | num n => simp [bodies, varK_1, eVar_u, eC_u, aNil_u, acK1_1, acK2_1, aCons_u, tupK_1, eTup_u, ldK_1, lDisp_u, eLK_1, eLMK_1, eL_u, eLM_u, eDiK_1, eDMK_1, eDi_u, eDM_u, opK1_1, opK2_1, opK3_1, eOp_u, negK_1, eNeg_u, slK1_1, slK2_1, slK3_1, slK4_1, ptSK_1, ptN_u, ptS_u, eSlice_u, callK_1, eCall_u, biK_1, blK_1, blK2_1, eBi_u, lBi_u, isiK_1, isiK2_1, eIsi_u, revK_1, revK2_1, lRev_u, andEK_1, andEK_2, orEK_1, orEK_2, notEK_1, orSK_1, ifEK_1, ifEK_2, tofK_1, eAnd_u, eOr_u, eNot_u, eOrS_u, eIf_u, tOf_u, chK1_1, chK2_1, chK3_1, chK3_2, eChain_u, tandK_1, tandK_2, torK_1, torK_2, tnotK_1, tTrue_u, tfAnd_u, tfOr_u, tfNot_u, lcK1_1, lcK2_1, lcK3_1, lcK3_2, lcK4_1, lcK5_1, lcD_n, lcD_c, aLc_u, wipeD_n, wipeD_c, gdName_u, gsK_1, gsNil_u, gdTup_u, gsCons_u, iseqK_1, iseqK2_1, itupK_1, istrK_1, irng1K_1, irng2K_1, seqP_1, seqP_2, iSeq_u, iTupD_u, iStrD_u, iRange1_u, iRange2_u, m1K_1, m1K2_1, m0K_1, s1K_1, eMeth1_u, eMeth0_u, eS1_u, setK_1, asgK_1, asgK2_1, retK_1, expK_1, seqK_1, seqK_2, seqK_3, ifK_1, ifK_2, forK_1, forD_n, forK2_1, forK3_1, forK3_2, forK3_3, fnK_1, fnK_2, gcK_1, sNext_u, sBrk_u, stK_1, stK0_1, stK1_1, stK2_1, sSet_u, sAsg_u, sRet_u, sExp_u, sSeq_u, sIf_u, sFor_u, forD_c, fnD_u, gcFn_u, sSetIx_u, dAdd_i, dAdd_s, dAdd_t, dAdd_l, dSub_i, dCmp_i, dEq_s, dEq_i, dEq_b, dNe_s, dNe_i, dNe_b, dIx_t, dIx_l, dIx_c, dSlice_t, dSlice_l, dSlice_c, dSlice_s, bLen_t, bLen_l, bLen_s, bTup_t, bTup_l, blList_t, blList_l, bInt_i, bInt_t, bInt_f, bMin_i, dIsN_1, dIsN_2, seqL_l, seqL_c, dMod_i, dDiv_i, dMul_r, dMul_l, bLen_c, gc_same, pow12, dicS_d, dicO_1, keyO_s, keyO_i, dgK_1, dgK2_1, diK_1, diK2_f, diK2_t, valD_n, mergeD_n, mergeD_c, putD_n, ienK_1, ppNil_u, ppK_1, ppK2_1, ppK3_1, keysD_n, kdK_1, kdK2_1, ddK_1, ddK2_1, g2K_1, g2K1_1, g2K2_1, g2K3_1, g2K4_1, isDic_d, dpK_1, dpK1_1, dpK2_1, dpK3_1, dbK_1, dbK2_1, bdCopy_1, ddNew_u, dicS_r, dGet_u, dInK_u, valD_c, putD_c, iEnumD_u, ppCons_u, keysD_c, ddDisp_u, eGet2_u, sDput_u, ddCopy_u, List.map_cons, List.map_nil, List.length_cons, List.length_nil, List.cons_append, List.nil_append, List.append_nil, List.getElem?_cons_zero, List.getElem?_cons_succ, List.set_cons_zero, List.set_cons_succ, ofString_inj, ofString_beq, ind, Pc.d, atI, ixN, dIn, seqA, flatD, eqF]
  | name n => simp [bodies, varK_1, eVar_u, eC_u, aNil_u, acK1_1, acK2_1, aCons_u, tupK_1, eTup_u, ldK_1, lDisp_u, eLK_1, eLMK_1, eL_u, eLM_u, eDiK_1, eDMK_1, eDi_u, eDM_u, opK1_1, opK2_1, opK3_1, eOp_u, negK_1, eNeg_u, slK1_1, slK2_1, slK3_1, slK4_1, ptSK_1, ptN_u, ptS_u, eSlice_u, callK_1, eCall_u, biK_1, blK_1, blK2_1, eBi_u, lBi_u, isiK_1, isiK2_1, eIsi_u, revK_1, revK2_1, lRev_u, andEK_1, andEK_2, orEK_1, orEK_2, notEK_1, orSK_1, ifEK_1, ifEK_2, tofK_1, eAnd_u, eOr_u, eNot_u, eOrS_u, eIf_u, tOf_u, chK1_1, chK2_1, chK3_1, chK3_2, eChain_u, tandK_1, tandK_2, torK_1, torK_2, tnotK_1, tTrue_u, tfAnd_u, tfOr_u, tfNot_u, lcK1_1, lcK2_1, lcK3_1, lcK3_2, lcK4_1, lcK5_1, lcD_n, lcD_c, aLc_u, wipeD_n, wipeD_c, gdName_u, gsK_1, gsNil_u, gdTup_u, gsCons_u, iseqK_1, iseqK2_1, itupK_1, istrK_1, irng1K_1, irng2K_1, seqP_1, seqP_2, iSeq_u, iTupD_u, iStrD_u, iRange1_u, iRange2_u, m1K_1, m1K2_1, m0K_1, s1K_1, eMeth1_u, eMeth0_u, eS1_u, setK_1, asgK_1, asgK2_1, retK_1, expK_1, seqK_1, seqK_2, seqK_3, ifK_1, ifK_2, forK_1, forD_n, forK2_1, forK3_1, forK3_2, forK3_3, fnK_1, fnK_2, gcK_1, sNext_u, sBrk_u, stK_1, stK0_1, stK1_1, stK2_1, sSet_u, sAsg_u, sRet_u, sExp_u, sSeq_u, sIf_u, sFor_u, forD_c, fnD_u, gcFn_u, sSetIx_u, dAdd_i, dAdd_s, dAdd_t, dAdd_l, dSub_i, dCmp_i, dEq_s, dEq_i, dEq_b, dNe_s, dNe_i, dNe_b, dIx_t, dIx_l, dIx_c, dSlice_t, dSlice_l, dSlice_c, dSlice_s, bLen_t, bLen_l, bLen_s, bTup_t, bTup_l, blList_t, blList_l, bInt_i, bInt_t, bInt_f, bMin_i, dIsN_1, dIsN_2, seqL_l, seqL_c, dMod_i, dDiv_i, dMul_r, dMul_l, bLen_c, gc_same, pow12, dicS_d, dicO_1, keyO_s, keyO_i, dgK_1, dgK2_1, diK_1, diK2_f, diK2_t, valD_n, mergeD_n, mergeD_c, putD_n, ienK_1, ppNil_u, ppK_1, ppK2_1, ppK3_1, keysD_n, kdK_1, kdK2_1, ddK_1, ddK2_1, g2K_1, g2K1_1, g2K2_1, g2K3_1, g2K4_1, isDic_d, dpK_1, dpK1_1, dpK2_1, dpK3_1, dbK_1, dbK2_1, bdCopy_1, ddNew_u, dicS_r, dGet_u, dInK_u, valD_c, putD_c, iEnumD_u, ppCons_u, keysD_c, ddDisp_u, eGet2_u, sDput_u, ddCopy_u, List.map_cons, List.map_nil, List.length_cons, List.length_nil, List.cons_append, List.nil_append, List.append_nil, List.getElem?_cons_zero, List.getElem?_cons_succ, List.set_cons_zero, List.set_cons_succ, ofString_inj, ofString_beq, ind, Pc.d, atI, ixN, dIn, seqA, flatD, eqF]
  | fn a x b => simp [bodies, varK_1, eVar_u, eC_u, aNil_u, acK1_1, acK2_1, aCons_u, tupK_1, eTup_u, ldK_1, lDisp_u, eLK_1, eLMK_1, eL_u, eLM_u, eDiK_1, eDMK_1, eDi_u, eDM_u, opK1_1, opK2_1, opK3_1, eOp_u, negK_1, eNeg_u, slK1_1, slK2_1, slK3_1, slK4_1, ptSK_1, ptN_u, ptS_u, eSlice_u, callK_1, eCall_u, biK_1, blK_1, blK2_1, eBi_u, lBi_u, isiK_1, isiK2_1, eIsi_u, revK_1, revK2_1, lRev_u, andEK_1, andEK_2, orEK_1, orEK_2, notEK_1, orSK_1, ifEK_1, ifEK_2, tofK_1, eAnd_u, eOr_u, eNot_u, eOrS_u, eIf_u, tOf_u, chK1_1, chK2_1, chK3_1, chK3_2, eChain_u, tandK_1, tandK_2, torK_1, torK_2, tnotK_1, tTrue_u, tfAnd_u, tfOr_u, tfNot_u, lcK1_1, lcK2_1, lcK3_1, lcK3_2, lcK4_1, lcK5_1, lcD_n, lcD_c, aLc_u, wipeD_n, wipeD_c, gdName_u, gsK_1, gsNil_u, gdTup_u, gsCons_u, iseqK_1, iseqK2_1, itupK_1, istrK_1, irng1K_1, irng2K_1, seqP_1, seqP_2, iSeq_u, iTupD_u, iStrD_u, iRange1_u, iRange2_u, m1K_1, m1K2_1, m0K_1, s1K_1, eMeth1_u, eMeth0_u, eS1_u, setK_1, asgK_1, asgK2_1, retK_1, expK_1, seqK_1, seqK_2, seqK_3, ifK_1, ifK_2, forK_1, forD_n, forK2_1, forK3_1, forK3_2, forK3_3, fnK_1, fnK_2, gcK_1, sNext_u, sBrk_u, stK_1, stK0_1, stK1_1, stK2_1, sSet_u, sAsg_u, sRet_u, sExp_u, sSeq_u, sIf_u, sFor_u, forD_c, fnD_u, gcFn_u, sSetIx_u, dAdd_i, dAdd_s, dAdd_t, dAdd_l, dSub_i, dCmp_i, dEq_s, dEq_i, dEq_b, dNe_s, dNe_i, dNe_b, dIx_t, dIx_l, dIx_c, dSlice_t, dSlice_l, dSlice_c, dSlice_s, bLen_t, bLen_l, bLen_s, bTup_t, bTup_l, blList_t, blList_l, bInt_i, bInt_t, bInt_f, bMin_i, dIsN_1, dIsN_2, seqL_l, seqL_c, dMod_i, dDiv_i, dMul_r, dMul_l, bLen_c, gc_same, pow12, dicS_d, dicO_1, keyO_s, keyO_i, dgK_1, dgK2_1, diK_1, diK2_f, diK2_t, valD_n, mergeD_n, mergeD_c, putD_n, ienK_1, ppNil_u, ppK_1, ppK2_1, ppK3_1, keysD_n, kdK_1, kdK2_1, ddK_1, ddK2_1, g2K_1, g2K1_1, g2K2_1, g2K3_1, g2K4_1, isDic_d, dpK_1, dpK1_1, dpK2_1, dpK3_1, dbK_1, dbK2_1, bdCopy_1, ddNew_u, dicS_r, dGet_u, dInK_u, valD_c, putD_c, iEnumD_u, ppCons_u, keysD_c, ddDisp_u, eGet2_u, sDput_u, ddCopy_u, List.map_cons, List.map_nil, List.length_cons, List.length_nil, List.cons_append, List.nil_append, List.append_nil, List.getElem?_cons_zero, List.getElem?_cons_succ, List.set_cons_zero, List.set_cons_succ, ofString_inj, ofString_beq, ind, Pc.d, atI, ixN, dIn, seqA, flatD, eqF]
  | take a x b => simp [bodies, varK_1, eVar_u, eC_u, aNil_u, acK1_1, acK2_1, aCons_u, tupK_1, eTup_u, ldK_1, lDisp_u, eLK_1, eLMK_1, eL_u, eLM_u, eDiK_1, eDMK_1, eDi_u, eDM_u, opK1_1, opK2_1, opK3_1, eOp_u, negK_1, eNeg_u, slK1_1, slK2_1, slK3_1, slK4_1, ptSK_1, ptN_u, ptS_u, eSlice_u, callK_1, eCall_u, biK_1, blK_1, blK2_1, eBi_u, lBi_u, isiK_1, isiK2_1, eIsi_u, revK_1, revK2_1, lRev_u, andEK_1, andEK_2, orEK_1, orEK_2, notEK_1, orSK_1, ifEK_1, ifEK_2, tofK_1, eAnd_u, eOr_u, eNot_u, eOrS_u, eIf_u, tOf_u, chK1_1, chK2_1, chK3_1, chK3_2, eChain_u, tandK_1, tandK_2, torK_1, torK_2, tnotK_1, tTrue_u, tfAnd_u, tfOr_u, tfNot_u, lcK1_1, lcK2_1, lcK3_1, lcK3_2, lcK4_1, lcK5_1, lcD_n, lcD_c, aLc_u, wipeD_n, wipeD_c, gdName_u, gsK_1, gsNil_u, gdTup_u, gsCons_u, iseqK_1, iseqK2_1, itupK_1, istrK_1, irng1K_1, irng2K_1, seqP_1, seqP_2, iSeq_u, iTupD_u, iStrD_u, iRange1_u, iRange2_u, m1K_1, m1K2_1, m0K_1, s1K_1, eMeth1_u, eMeth0_u, eS1_u, setK_1, asgK_1, asgK2_1, retK_1, expK_1, seqK_1, seqK_2, seqK_3, ifK_1, ifK_2, forK_1, forD_n, forK2_1, forK3_1, forK3_2, forK3_3, fnK_1, fnK_2, gcK_1, sNext_u, sBrk_u, stK_1, stK0_1, stK1_1, stK2_1, sSet_u, sAsg_u, sRet_u, sExp_u, sSeq_u, sIf_u, sFor_u, forD_c, fnD_u, gcFn_u, sSetIx_u, dAdd_i, dAdd_s, dAdd_t, dAdd_l, dSub_i, dCmp_i, dEq_s, dEq_i, dEq_b, dNe_s, dNe_i, dNe_b, dIx_t, dIx_l, dIx_c, dSlice_t, dSlice_l, dSlice_c, dSlice_s, bLen_t, bLen_l, bLen_s, bTup_t, bTup_l, blList_t, blList_l, bInt_i, bInt_t, bInt_f, bMin_i, dIsN_1, dIsN_2, seqL_l, seqL_c, dMod_i, dDiv_i, dMul_r, dMul_l, bLen_c, gc_same, pow12, dicS_d, dicO_1, keyO_s, keyO_i, dgK_1, dgK2_1, diK_1, diK2_f, diK2_t, valD_n, mergeD_n, mergeD_c, putD_n, ienK_1, ppNil_u, ppK_1, ppK2_1, ppK3_1, keysD_n, kdK_1, kdK2_1, ddK_1, ddK2_1, g2K_1, g2K1_1, g2K2_1, g2K3_1, g2K4_1, isDic_d, dpK_1, dpK1_1, dpK2_1, dpK3_1, dbK_1, dbK2_1, bdCopy_1, ddNew_u, dicS_r, dGet_u, dInK_u, valD_c, putD_c, iEnumD_u, ppCons_u, keysD_c, ddDisp_u, eGet2_u, sDput_u, ddCopy_u, List.map_cons, List.map_nil, List.length_cons, List.length_nil, List.cons_append, List.nil_append, List.append_nil, List.getElem?_cons_zero, List.getElem?_cons_succ, List.set_cons_zero, List.set_cons_succ, ofString_inj, ofString_beq, ind, Pc.d, atI, ixN, dIn, seqA, flatD, eqF]
  | shut a x b => simp [bodies, varK_1, eVar_u, eC_u, aNil_u, acK1_1, acK2_1, aCons_u, tupK_1, eTup_u, ldK_1, lDisp_u, eLK_1, eLMK_1, eL_u, eLM_u, eDiK_1, eDMK_1, eDi_u, eDM_u, opK1_1, opK2_1, opK3_1, eOp_u, negK_1, eNeg_u, slK1_1, slK2_1, slK3_1, slK4_1, ptSK_1, ptN_u, ptS_u, eSlice_u, callK_1, eCall_u, biK_1, blK_1, blK2_1, eBi_u, lBi_u, isiK_1, isiK2_1, eIsi_u, revK_1, revK2_1, lRev_u, andEK_1, andEK_2, orEK_1, orEK_2, notEK_1, orSK_1, ifEK_1, ifEK_2, tofK_1, eAnd_u, eOr_u, eNot_u, eOrS_u, eIf_u, tOf_u, chK1_1, chK2_1, chK3_1, chK3_2, eChain_u, tandK_1, tandK_2, torK_1, torK_2, tnotK_1, tTrue_u, tfAnd_u, tfOr_u, tfNot_u, lcK1_1, lcK2_1, lcK3_1, lcK3_2, lcK4_1, lcK5_1, lcD_n, lcD_c, aLc_u, wipeD_n, wipeD_c, gdName_u, gsK_1, gsNil_u, gdTup_u, gsCons_u, iseqK_1, iseqK2_1, itupK_1, istrK_1, irng1K_1, irng2K_1, seqP_1, seqP_2, iSeq_u, iTupD_u, iStrD_u, iRange1_u, iRange2_u, m1K_1, m1K2_1, m0K_1, s1K_1, eMeth1_u, eMeth0_u, eS1_u, setK_1, asgK_1, asgK2_1, retK_1, expK_1, seqK_1, seqK_2, seqK_3, ifK_1, ifK_2, forK_1, forD_n, forK2_1, forK3_1, forK3_2, forK3_3, fnK_1, fnK_2, gcK_1, sNext_u, sBrk_u, stK_1, stK0_1, stK1_1, stK2_1, sSet_u, sAsg_u, sRet_u, sExp_u, sSeq_u, sIf_u, sFor_u, forD_c, fnD_u, gcFn_u, sSetIx_u, dAdd_i, dAdd_s, dAdd_t, dAdd_l, dSub_i, dCmp_i, dEq_s, dEq_i, dEq_b, dNe_s, dNe_i, dNe_b, dIx_t, dIx_l, dIx_c, dSlice_t, dSlice_l, dSlice_c, dSlice_s, bLen_t, bLen_l, bLen_s, bTup_t, bTup_l, blList_t, blList_l, bInt_i, bInt_t, bInt_f, bMin_i, dIsN_1, dIsN_2, seqL_l, seqL_c, dMod_i, dDiv_i, dMul_r, dMul_l, bLen_c, gc_same, pow12, dicS_d, dicO_1, keyO_s, keyO_i, dgK_1, dgK2_1, diK_1, diK2_f, diK2_t, valD_n, mergeD_n, mergeD_c, putD_n, ienK_1, ppNil_u, ppK_1, ppK2_1, ppK3_1, keysD_n, kdK_1, kdK2_1, ddK_1, ddK2_1, g2K_1, g2K1_1, g2K2_1, g2K3_1, g2K4_1, isDic_d, dpK_1, dpK1_1, dpK2_1, dpK3_1, dbK_1, dbK2_1, bdCopy_1, ddNew_u, dicS_r, dGet_u, dInK_u, valD_c, putD_c, iEnumD_u, ppCons_u, keysD_c, ddDisp_u, eGet2_u, sDput_u, ddCopy_u, List.map_cons, List.map_nil, List.length_cons, List.length_nil, List.cons_append, List.nil_append, List.append_nil, List.getElem?_cons_zero, List.getElem?_cons_succ, List.set_cons_zero, List.set_cons_succ, ofString_inj, ofString_beq, ind, Pc.d, atI, ixN, dIn, seqA, flatD, eqF]
  | kept a fs => simp [bodies, varK_1, eVar_u, eC_u, aNil_u, acK1_1, acK2_1, aCons_u, tupK_1, eTup_u, ldK_1, lDisp_u, eLK_1, eLMK_1, eL_u, eLM_u, eDiK_1, eDMK_1, eDi_u, eDM_u, opK1_1, opK2_1, opK3_1, eOp_u, negK_1, eNeg_u, slK1_1, slK2_1, slK3_1, slK4_1, ptSK_1, ptN_u, ptS_u, eSlice_u, callK_1, eCall_u, biK_1, blK_1, blK2_1, eBi_u, lBi_u, isiK_1, isiK2_1, eIsi_u, revK_1, revK2_1, lRev_u, andEK_1, andEK_2, orEK_1, orEK_2, notEK_1, orSK_1, ifEK_1, ifEK_2, tofK_1, eAnd_u, eOr_u, eNot_u, eOrS_u, eIf_u, tOf_u, chK1_1, chK2_1, chK3_1, chK3_2, eChain_u, tandK_1, tandK_2, torK_1, torK_2, tnotK_1, tTrue_u, tfAnd_u, tfOr_u, tfNot_u, lcK1_1, lcK2_1, lcK3_1, lcK3_2, lcK4_1, lcK5_1, lcD_n, lcD_c, aLc_u, wipeD_n, wipeD_c, gdName_u, gsK_1, gsNil_u, gdTup_u, gsCons_u, iseqK_1, iseqK2_1, itupK_1, istrK_1, irng1K_1, irng2K_1, seqP_1, seqP_2, iSeq_u, iTupD_u, iStrD_u, iRange1_u, iRange2_u, m1K_1, m1K2_1, m0K_1, s1K_1, eMeth1_u, eMeth0_u, eS1_u, setK_1, asgK_1, asgK2_1, retK_1, expK_1, seqK_1, seqK_2, seqK_3, ifK_1, ifK_2, forK_1, forD_n, forK2_1, forK3_1, forK3_2, forK3_3, fnK_1, fnK_2, gcK_1, sNext_u, sBrk_u, stK_1, stK0_1, stK1_1, stK2_1, sSet_u, sAsg_u, sRet_u, sExp_u, sSeq_u, sIf_u, sFor_u, forD_c, fnD_u, gcFn_u, sSetIx_u, dAdd_i, dAdd_s, dAdd_t, dAdd_l, dSub_i, dCmp_i, dEq_s, dEq_i, dEq_b, dNe_s, dNe_i, dNe_b, dIx_t, dIx_l, dIx_c, dSlice_t, dSlice_l, dSlice_c, dSlice_s, bLen_t, bLen_l, bLen_s, bTup_t, bTup_l, blList_t, blList_l, bInt_i, bInt_t, bInt_f, bMin_i, dIsN_1, dIsN_2, seqL_l, seqL_c, dMod_i, dDiv_i, dMul_r, dMul_l, bLen_c, gc_same, pow12, dicS_d, dicO_1, keyO_s, keyO_i, dgK_1, dgK2_1, diK_1, diK2_f, diK2_t, valD_n, mergeD_n, mergeD_c, putD_n, ienK_1, ppNil_u, ppK_1, ppK2_1, ppK3_1, keysD_n, kdK_1, kdK2_1, ddK_1, ddK2_1, g2K_1, g2K1_1, g2K2_1, g2K3_1, g2K4_1, isDic_d, dpK_1, dpK1_1, dpK2_1, dpK3_1, dbK_1, dbK2_1, bdCopy_1, ddNew_u, dicS_r, dGet_u, dInK_u, valD_c, putD_c, iEnumD_u, ppCons_u, keysD_c, ddDisp_u, eGet2_u, sDput_u, ddCopy_u, List.map_cons, List.map_nil, List.length_cons, List.length_nil, List.cons_append, List.nil_append, List.append_nil, List.getElem?_cons_zero, List.getElem?_cons_succ, List.set_cons_zero, List.set_cons_succ, ofString_inj, ofString_beq, ind, Pc.d, atI, ixN, dIn, seqA, flatD, eqF]
def lineC : T := tOf (eOp (dCmp fun i j => decide (i > j)) (eOp dIx (eOp dIx (eVar 1) (eNeg (eC (.int 1)))) (eC (.int 1))) (eC (.int 0)))
def lineB (F : Fns) : B := sSeq (sSet 2 (eOp dIx (eOp dIx (eOp dIx (eVar 1) (eNeg (eC (.int 1)))) (eC (.int 0))) (eOp dIx (eOp dIx (eVar 1) (eNeg (eC (.int 1)))) (eC (.int 1)))))
  (sExp (eMeth1 kAppend (eVar 1) (eTup (aCons (eVar 2) (aCons (eCall 1 (F ._law_inward) (aCons (eVar 2) aNil)) aNil)))))
theorem dIx_newL (S : List O) (ds : List D) (x : D) : dIx (.ref S.length) (.int (-1)) (S ++ [.lst (ds ++ [x])]) = some x := by rw [dIx_new, atI_last]
theorem line_loop {k : Nat} (hk : 2 ≤ k) (S : List O) (d0 : D) : ∀ (p : Pc) (ds : List D) (z : Option D) (n : Nat), (frs p).length + 1 ≤ n → ds.length + 1 + (frs p).length < 16777216 →
    ∃ z', whD lineC (lineB (Fk k)) n [some d0, some (.ref S.length), z] (S ++ [.lst (ds ++ [entD (p, ind p)])]) =
      some (.nx [some d0, some (.ref S.length), z'] (S ++ [.lst (ds ++ (ln p).map entD ++ [entD (hd p, 0)])])) := by
  intro p
  induction p using frs_ind with
  | h0 p h =>
    intro ds z n hn hl
    obtain ⟨n, rfl⟩ : ∃ j, n = j + 1 := ⟨n - 1, by omega⟩
    rw [(ln_none h).1, (ln_none h).2, (inn_none h).2]
    have e := dIx_newL S ds (entD (p, 0))
    unfold whD
    refine ⟨z, ?_⟩
    simp [lineC, varK_1, eVar_u, eC_u, aNil_u, acK1_1, acK2_1, aCons_u, tupK_1, eTup_u, ldK_1, lDisp_u, eLK_1, eLMK_1, eL_u, eLM_u, eDiK_1, eDMK_1, eDi_u, eDM_u, opK1_1, opK2_1, opK3_1, eOp_u, negK_1, eNeg_u, slK1_1, slK2_1, slK3_1, slK4_1, ptSK_1, ptN_u, ptS_u, eSlice_u, callK_1, eCall_u, biK_1, blK_1, blK2_1, eBi_u, lBi_u, isiK_1, isiK2_1, eIsi_u, revK_1, revK2_1, lRev_u, andEK_1, andEK_2, orEK_1, orEK_2, notEK_1, orSK_1, ifEK_1, ifEK_2, tofK_1, eAnd_u, eOr_u, eNot_u, eOrS_u, eIf_u, tOf_u, chK1_1, chK2_1, chK3_1, chK3_2, eChain_u, tandK_1, tandK_2, torK_1, torK_2, tnotK_1, tTrue_u, tfAnd_u, tfOr_u, tfNot_u, lcK1_1, lcK2_1, lcK3_1, lcK3_2, lcK4_1, lcK5_1, lcD_n, lcD_c, aLc_u, wipeD_n, wipeD_c, gdName_u, gsK_1, gsNil_u, gdTup_u, gsCons_u, iseqK_1, iseqK2_1, itupK_1, istrK_1, irng1K_1, irng2K_1, seqP_1, seqP_2, iSeq_u, iTupD_u, iStrD_u, iRange1_u, iRange2_u, m1K_1, m1K2_1, m0K_1, s1K_1, eMeth1_u, eMeth0_u, eS1_u, setK_1, asgK_1, asgK2_1, retK_1, expK_1, seqK_1, seqK_2, seqK_3, ifK_1, ifK_2, forK_1, forD_n, forK2_1, forK3_1, forK3_2, forK3_3, fnK_1, fnK_2, gcK_1, sNext_u, sBrk_u, stK_1, stK0_1, stK1_1, stK2_1, sSet_u, sAsg_u, sRet_u, sExp_u, sSeq_u, sIf_u, sFor_u, forD_c, fnD_u, gcFn_u, sSetIx_u, dAdd_i, dAdd_s, dAdd_t, dAdd_l, dSub_i, dCmp_i, dEq_s, dEq_i, dEq_b, dNe_s, dNe_i, dNe_b, dIx_t, dIx_l, dIx_c, dSlice_t, dSlice_l, dSlice_c, dSlice_s, bLen_t, bLen_l, bLen_s, bTup_t, bTup_l, blList_t, blList_l, bInt_i, bInt_t, bInt_f, bMin_i, dIsN_1, dIsN_2, seqL_l, seqL_c, dMod_i, dDiv_i, dMul_r, dMul_l, bLen_c, gc_same, pow12, dicS_d, dicO_1, keyO_s, keyO_i, dgK_1, dgK2_1, diK_1, diK2_f, diK2_t, valD_n, mergeD_n, mergeD_c, putD_n, ienK_1, ppNil_u, ppK_1, ppK2_1, ppK3_1, keysD_n, kdK_1, kdK2_1, ddK_1, ddK2_1, g2K_1, g2K1_1, g2K2_1, g2K3_1, g2K4_1, isDic_d, dpK_1, dpK1_1, dpK2_1, dpK3_1, dbK_1, dbK2_1, bdCopy_1, ddNew_u, dicS_r, dGet_u, dInK_u, valD_c, putD_c, iEnumD_u, ppCons_u, keysD_c, ddDisp_u, eGet2_u, sDput_u, ddCopy_u, List.map_cons, List.map_nil, List.length_cons, List.length_nil, List.cons_append, List.nil_append, List.append_nil, List.getElem?_cons_zero, List.getElem?_cons_succ, List.set_cons_zero, List.set_cons_succ, ofString_inj, ofString_beq, e]
    simp [entD, varK_1, eVar_u, eC_u, aNil_u, acK1_1, acK2_1, aCons_u, tupK_1, eTup_u, ldK_1, lDisp_u, eLK_1, eLMK_1, eL_u, eLM_u, eDiK_1, eDMK_1, eDi_u, eDM_u, opK1_1, opK2_1, opK3_1, eOp_u, negK_1, eNeg_u, slK1_1, slK2_1, slK3_1, slK4_1, ptSK_1, ptN_u, ptS_u, eSlice_u, callK_1, eCall_u, biK_1, blK_1, blK2_1, eBi_u, lBi_u, isiK_1, isiK2_1, eIsi_u, revK_1, revK2_1, lRev_u, andEK_1, andEK_2, orEK_1, orEK_2, notEK_1, orSK_1, ifEK_1, ifEK_2, tofK_1, eAnd_u, eOr_u, eNot_u, eOrS_u, eIf_u, tOf_u, chK1_1, chK2_1, chK3_1, chK3_2, eChain_u, tandK_1, tandK_2, torK_1, torK_2, tnotK_1, tTrue_u, tfAnd_u, tfOr_u, tfNot_u, lcK1_1, lcK2_1, lcK3_1, lcK3_2, lcK4_1, lcK5_1, lcD_n, lcD_c, aLc_u, wipeD_n, wipeD_c, gdName_u, gsK_1, gsNil_u, gdTup_u, gsCons_u, iseqK_1, iseqK2_1, itupK_1, istrK_1, irng1K_1, irng2K_1, seqP_1, seqP_2, iSeq_u, iTupD_u, iStrD_u, iRange1_u, iRange2_u, m1K_1, m1K2_1, m0K_1, s1K_1, eMeth1_u, eMeth0_u, eS1_u, setK_1, asgK_1, asgK2_1, retK_1, expK_1, seqK_1, seqK_2, seqK_3, ifK_1, ifK_2, forK_1, forD_n, forK2_1, forK3_1, forK3_2, forK3_3, fnK_1, fnK_2, gcK_1, sNext_u, sBrk_u, stK_1, stK0_1, stK1_1, stK2_1, sSet_u, sAsg_u, sRet_u, sExp_u, sSeq_u, sIf_u, sFor_u, forD_c, fnD_u, gcFn_u, sSetIx_u, dAdd_i, dAdd_s, dAdd_t, dAdd_l, dSub_i, dCmp_i, dEq_s, dEq_i, dEq_b, dNe_s, dNe_i, dNe_b, dIx_t, dIx_l, dIx_c, dSlice_t, dSlice_l, dSlice_c, dSlice_s, bLen_t, bLen_l, bLen_s, bTup_t, bTup_l, blList_t, blList_l, bInt_i, bInt_t, bInt_f, bMin_i, dIsN_1, dIsN_2, seqL_l, seqL_c, dMod_i, dDiv_i, dMul_r, dMul_l, bLen_c, gc_same, pow12, dicS_d, dicO_1, keyO_s, keyO_i, dgK_1, dgK2_1, diK_1, diK2_f, diK2_t, valD_n, mergeD_n, mergeD_c, putD_n, ienK_1, ppNil_u, ppK_1, ppK2_1, ppK3_1, keysD_n, kdK_1, kdK2_1, ddK_1, ddK2_1, g2K_1, g2K1_1, g2K2_1, g2K3_1, g2K4_1, isDic_d, dpK_1, dpK1_1, dpK2_1, dpK3_1, dbK_1, dbK2_1, bdCopy_1, ddNew_u, dicS_r, dGet_u, dInK_u, valD_c, putD_c, iEnumD_u, ppCons_u, keysD_c, ddDisp_u, eGet2_u, sDput_u, ddCopy_u, List.map_cons, List.map_nil, List.length_cons, List.length_nil, List.cons_append, List.nil_append, List.append_nil, List.getElem?_cons_zero, List.getElem?_cons_succ, List.set_cons_zero, List.set_cons_succ, ofString_inj, ofString_beq, atI, ixN]
  | h1 p f q h ih =>
    intro ds z n hn hl
    obtain ⟨n, rfl⟩ : ∃ j, n = j + 1 := ⟨n - 1, by omega⟩
    obtain ⟨e1, e2, _⟩ := inn_some h
    obtain ⟨l1, l2⟩ := ln_some h
    rw [e1] at hn hl
    simp only [List.length_cons] at hn hl
    have e3 := inward_D hk q (S ++ [.lst (ds ++ [entD (p, ind p)])])
    have e4 := append_new S (ds ++ [entD (p, ind p)]) (.tup [q.d, .int (ind q : Nat)]) (by simp; omega)
    have e5 := isLst_new S (ds ++ [entD (p, ind p)])
    have e := dIx_newL S ds (entD (p, ind p))
    have ei := inn_ix h (S ++ [.lst (ds ++ [entD (p, ind p)])])
    have a0 : ∀ S, dIx (entD (p, ind p)) (.int 0) S = some p.d := fun S => by simp [entD, dIx_t, atI, ixN]
    have a1 : ∀ S, dIx (entD (p, ind p)) (.int 1) S = some (.int (ind p : Nat)) := fun S => by simp [entD, dIx_t, atI, ixN]
    obtain ⟨z', ih⟩ := ih (ds ++ [entD (p, ind p)]) (some q.d) n (by omega) (by simp; omega)
    refine ⟨z', ?_⟩
    rw [e2, l1]
    unfold whD
    have c : lineC [some d0, some (.ref S.length), z] (S ++ [.lst (ds ++ [entD (p, ind p)])]) = some (true, S ++ [.lst (ds ++ [entD (p, ind p)])]) := by
      simp [lineC, varK_1, eVar_u, eC_u, aNil_u, acK1_1, acK2_1, aCons_u, tupK_1, eTup_u, ldK_1, lDisp_u, eLK_1, eLMK_1, eL_u, eLM_u, eDiK_1, eDMK_1, eDi_u, eDM_u, opK1_1, opK2_1, opK3_1, eOp_u, negK_1, eNeg_u, slK1_1, slK2_1, slK3_1, slK4_1, ptSK_1, ptN_u, ptS_u, eSlice_u, callK_1, eCall_u, biK_1, blK_1, blK2_1, eBi_u, lBi_u, isiK_1, isiK2_1, eIsi_u, revK_1, revK2_1, lRev_u, andEK_1, andEK_2, orEK_1, orEK_2, notEK_1, orSK_1, ifEK_1, ifEK_2, tofK_1, eAnd_u, eOr_u, eNot_u, eOrS_u, eIf_u, tOf_u, chK1_1, chK2_1, chK3_1, chK3_2, eChain_u, tandK_1, tandK_2, torK_1, torK_2, tnotK_1, tTrue_u, tfAnd_u, tfOr_u, tfNot_u, lcK1_1, lcK2_1, lcK3_1, lcK3_2, lcK4_1, lcK5_1, lcD_n, lcD_c, aLc_u, wipeD_n, wipeD_c, gdName_u, gsK_1, gsNil_u, gdTup_u, gsCons_u, iseqK_1, iseqK2_1, itupK_1, istrK_1, irng1K_1, irng2K_1, seqP_1, seqP_2, iSeq_u, iTupD_u, iStrD_u, iRange1_u, iRange2_u, m1K_1, m1K2_1, m0K_1, s1K_1, eMeth1_u, eMeth0_u, eS1_u, setK_1, asgK_1, asgK2_1, retK_1, expK_1, seqK_1, seqK_2, seqK_3, ifK_1, ifK_2, forK_1, forD_n, forK2_1, forK3_1, forK3_2, forK3_3, fnK_1, fnK_2, gcK_1, sNext_u, sBrk_u, stK_1, stK0_1, stK1_1, stK2_1, sSet_u, sAsg_u, sRet_u, sExp_u, sSeq_u, sIf_u, sFor_u, forD_c, fnD_u, gcFn_u, sSetIx_u, dAdd_i, dAdd_s, dAdd_t, dAdd_l, dSub_i, dCmp_i, dEq_s, dEq_i, dEq_b, dNe_s, dNe_i, dNe_b, dIx_t, dIx_l, dIx_c, dSlice_t, dSlice_l, dSlice_c, dSlice_s, bLen_t, bLen_l, bLen_s, bTup_t, bTup_l, blList_t, blList_l, bInt_i, bInt_t, bInt_f, bMin_i, dIsN_1, dIsN_2, seqL_l, seqL_c, dMod_i, dDiv_i, dMul_r, dMul_l, bLen_c, gc_same, pow12, dicS_d, dicO_1, keyO_s, keyO_i, dgK_1, dgK2_1, diK_1, diK2_f, diK2_t, valD_n, mergeD_n, mergeD_c, putD_n, ienK_1, ppNil_u, ppK_1, ppK2_1, ppK3_1, keysD_n, kdK_1, kdK2_1, ddK_1, ddK2_1, g2K_1, g2K1_1, g2K2_1, g2K3_1, g2K4_1, isDic_d, dpK_1, dpK1_1, dpK2_1, dpK3_1, dbK_1, dbK2_1, bdCopy_1, ddNew_u, dicS_r, dGet_u, dInK_u, valD_c, putD_c, iEnumD_u, ppCons_u, keysD_c, ddDisp_u, eGet2_u, sDput_u, ddCopy_u, List.map_cons, List.map_nil, List.length_cons, List.length_nil, List.cons_append, List.nil_append, List.append_nil, List.getElem?_cons_zero, List.getElem?_cons_succ, List.set_cons_zero, List.set_cons_succ, ofString_inj, ofString_beq, e, a1, l2]
    have st : lineB (Fk k) [some d0, some (.ref S.length), z] (S ++ [.lst (ds ++ [entD (p, ind p)])]) = some (.nx [some d0, some (.ref S.length), some q.d] (S ++ [.lst (ds ++ [entD (p, ind p)] ++ [entD (q, ind q)])])) := by
      simp only [List.append_assoc] at *
      simp [lineB, varK_1, eVar_u, eC_u, aNil_u, acK1_1, acK2_1, aCons_u, tupK_1, eTup_u, ldK_1, lDisp_u, eLK_1, eLMK_1, eL_u, eLM_u, eDiK_1, eDMK_1, eDi_u, eDM_u, opK1_1, opK2_1, opK3_1, eOp_u, negK_1, eNeg_u, slK1_1, slK2_1, slK3_1, slK4_1, ptSK_1, ptN_u, ptS_u, eSlice_u, callK_1, eCall_u, biK_1, blK_1, blK2_1, eBi_u, lBi_u, isiK_1, isiK2_1, eIsi_u, revK_1, revK2_1, lRev_u, andEK_1, andEK_2, orEK_1, orEK_2, notEK_1, orSK_1, ifEK_1, ifEK_2, tofK_1, eAnd_u, eOr_u, eNot_u, eOrS_u, eIf_u, tOf_u, chK1_1, chK2_1, chK3_1, chK3_2, eChain_u, tandK_1, tandK_2, torK_1, torK_2, tnotK_1, tTrue_u, tfAnd_u, tfOr_u, tfNot_u, lcK1_1, lcK2_1, lcK3_1, lcK3_2, lcK4_1, lcK5_1, lcD_n, lcD_c, aLc_u, wipeD_n, wipeD_c, gdName_u, gsK_1, gsNil_u, gdTup_u, gsCons_u, iseqK_1, iseqK2_1, itupK_1, istrK_1, irng1K_1, irng2K_1, seqP_1, seqP_2, iSeq_u, iTupD_u, iStrD_u, iRange1_u, iRange2_u, m1K_1, m1K2_1, m0K_1, s1K_1, eMeth1_u, eMeth0_u, eS1_u, setK_1, asgK_1, asgK2_1, retK_1, expK_1, seqK_1, seqK_2, seqK_3, ifK_1, ifK_2, forK_1, forD_n, forK2_1, forK3_1, forK3_2, forK3_3, fnK_1, fnK_2, gcK_1, sNext_u, sBrk_u, stK_1, stK0_1, stK1_1, stK2_1, sSet_u, sAsg_u, sRet_u, sExp_u, sSeq_u, sIf_u, sFor_u, forD_c, fnD_u, gcFn_u, sSetIx_u, dAdd_i, dAdd_s, dAdd_t, dAdd_l, dSub_i, dCmp_i, dEq_s, dEq_i, dEq_b, dNe_s, dNe_i, dNe_b, dIx_t, dIx_l, dIx_c, dSlice_t, dSlice_l, dSlice_c, dSlice_s, bLen_t, bLen_l, bLen_s, bTup_t, bTup_l, blList_t, blList_l, bInt_i, bInt_t, bInt_f, bMin_i, dIsN_1, dIsN_2, seqL_l, seqL_c, dMod_i, dDiv_i, dMul_r, dMul_l, bLen_c, gc_same, pow12, dicS_d, dicO_1, keyO_s, keyO_i, dgK_1, dgK2_1, diK_1, diK2_f, diK2_t, valD_n, mergeD_n, mergeD_c, putD_n, ienK_1, ppNil_u, ppK_1, ppK2_1, ppK3_1, keysD_n, kdK_1, kdK2_1, ddK_1, ddK2_1, g2K_1, g2K1_1, g2K2_1, g2K3_1, g2K4_1, isDic_d, dpK_1, dpK1_1, dpK2_1, dpK3_1, dbK_1, dbK2_1, bdCopy_1, ddNew_u, dicS_r, dGet_u, dInK_u, valD_c, putD_c, iEnumD_u, ppCons_u, keysD_c, ddDisp_u, eGet2_u, sDput_u, ddCopy_u, List.map_cons, List.map_nil, List.length_cons, List.length_nil, List.cons_append, List.nil_append, List.append_nil, List.getElem?_cons_zero, List.getElem?_cons_succ, List.set_cons_zero, List.set_cons_succ, ofString_inj, ofString_beq, e, a0, a1, ei, e3, e4, e5]
      rfl
    rw [c]
    simp only [Option.bind_some, if_true, st]
    rw [ih]
    simp
theorem okD_ent (n : Nat) (e : Pc × Nat) : okD n (entD e) = true := by simp [entD, okD, okDs, okD_pc]
theorem okDs_all (n : Nat) : ∀ (ds : List D), (∀ d ∈ ds, okD n d = true) → okDs n ds = true
  | [], _ => by simp [okDs]
  | d :: ds, h => by simp [okDs, h d List.mem_cons_self, okDs_all n ds (fun e he => h e (List.mem_cons_of_mem _ he))]
theorem gc_list {S : List O} {xs : List D} (h : okS S) (hd : okDs S.length xs = true) : gcF S.length (.ref S.length, S ++ [.lst xs]) = some (.lst xs, S) := by
  unfold gcF
  rw [if_neg (by simp)]
  have e : (S ++ [O.lst xs]).take S.length = S := by simp
  simp only [e]
  rw [if_pos (show S.all (okO S.length) = true from h)]
  simp [hd]
theorem line_D {k : Nat} (hk : 3 ≤ k) (p : Pc) (S : List O) (ok : okS S) (hl : (frs p).length < 10000000) : Fk k ._law_line [p.d] S = some (.lst ((ln p).map entD ++ [entD (hd p, 0)]), S) := by
  obtain ⟨k, rfl⟩ : ∃ j, k = j + 1 := ⟨k - 1, by omega⟩
  obtain ⟨z', lp⟩ := line_loop (k := k) (by omega) S p.d p [] none big (by unfold big; omega) (by simp; omega)
  simp only [List.nil_append, lineC, lineB] at lp
  have e1 := inward_D (k := k) (by omega) p S
  have g := gc_list (xs := (ln p).map entD ++ [entD (hd p, 0)]) ok (okDs_all _ _ (fun d hd => by
    rcases List.mem_append.mp hd with q | q
    · obtain ⟨e, _, rfl⟩ := List.mem_map.mp q; exact okD_ent _ e
    · rw [List.mem_singleton] at q; subst q; exact okD_ent _ _))
  have ed : D.tup [p.d, .int (ind p : Nat)] = entD (p, ind p) := rfl
  rw [Fk_s]
  simp [bodies, varK_1, eVar_u, eC_u, aNil_u, acK1_1, acK2_1, aCons_u, tupK_1, eTup_u, ldK_1, lDisp_u, eLK_1, eLMK_1, eL_u, eLM_u, eDiK_1, eDMK_1, eDi_u, eDM_u, opK1_1, opK2_1, opK3_1, eOp_u, negK_1, eNeg_u, slK1_1, slK2_1, slK3_1, slK4_1, ptSK_1, ptN_u, ptS_u, eSlice_u, callK_1, eCall_u, biK_1, blK_1, blK2_1, eBi_u, lBi_u, isiK_1, isiK2_1, eIsi_u, revK_1, revK2_1, lRev_u, andEK_1, andEK_2, orEK_1, orEK_2, notEK_1, orSK_1, ifEK_1, ifEK_2, tofK_1, eAnd_u, eOr_u, eNot_u, eOrS_u, eIf_u, tOf_u, chK1_1, chK2_1, chK3_1, chK3_2, eChain_u, tandK_1, tandK_2, torK_1, torK_2, tnotK_1, tTrue_u, tfAnd_u, tfOr_u, tfNot_u, lcK1_1, lcK2_1, lcK3_1, lcK3_2, lcK4_1, lcK5_1, lcD_n, lcD_c, aLc_u, wipeD_n, wipeD_c, gdName_u, gsK_1, gsNil_u, gdTup_u, gsCons_u, iseqK_1, iseqK2_1, itupK_1, istrK_1, irng1K_1, irng2K_1, seqP_1, seqP_2, iSeq_u, iTupD_u, iStrD_u, iRange1_u, iRange2_u, m1K_1, m1K2_1, m0K_1, s1K_1, eMeth1_u, eMeth0_u, eS1_u, setK_1, asgK_1, asgK2_1, retK_1, expK_1, seqK_1, seqK_2, seqK_3, ifK_1, ifK_2, forK_1, forD_n, forK2_1, forK3_1, forK3_2, forK3_3, fnK_1, fnK_2, gcK_1, sNext_u, sBrk_u, stK_1, stK0_1, stK1_1, stK2_1, sSet_u, sAsg_u, sRet_u, sExp_u, sSeq_u, sIf_u, sFor_u, forD_c, fnD_u, gcFn_u, sSetIx_u, dAdd_i, dAdd_s, dAdd_t, dAdd_l, dSub_i, dCmp_i, dEq_s, dEq_i, dEq_b, dNe_s, dNe_i, dNe_b, dIx_t, dIx_l, dIx_c, dSlice_t, dSlice_l, dSlice_c, dSlice_s, bLen_t, bLen_l, bLen_s, bTup_t, bTup_l, blList_t, blList_l, bInt_i, bInt_t, bInt_f, bMin_i, dIsN_1, dIsN_2, seqL_l, seqL_c, dMod_i, dDiv_i, dMul_r, dMul_l, bLen_c, gc_same, pow12, dicS_d, dicO_1, keyO_s, keyO_i, dgK_1, dgK2_1, diK_1, diK2_f, diK2_t, valD_n, mergeD_n, mergeD_c, putD_n, ienK_1, ppNil_u, ppK_1, ppK2_1, ppK3_1, keysD_n, kdK_1, kdK2_1, ddK_1, ddK2_1, g2K_1, g2K1_1, g2K2_1, g2K3_1, g2K4_1, isDic_d, dpK_1, dpK1_1, dpK2_1, dpK3_1, dbK_1, dbK2_1, bdCopy_1, ddNew_u, dicS_r, dGet_u, dInK_u, valD_c, putD_c, iEnumD_u, ppCons_u, keysD_c, ddDisp_u, eGet2_u, sDput_u, ddCopy_u, List.map_cons, List.map_nil, List.length_cons, List.length_nil, List.cons_append, List.nil_append, List.append_nil, List.getElem?_cons_zero, List.getElem?_cons_succ, List.set_cons_zero, List.set_cons_succ, ofString_inj, ofString_beq, sWhile_u, e1, ed, lp, g]
theorem frame_D {k : Nat} (hk : 1 ≤ k) (e : Pc × Nat) (S : List O) (h : PrE e) : Fk k ._law_frame [e.1.d, .int (e.2 : Nat)] S = some ((frOf e).d, S) := by
  obtain ⟨k, rfl⟩ : ∃ j, k = j + 1 := ⟨k - 1, by omega⟩
  rw [Fk_s]
  obtain ⟨p, i⟩ := e
  obtain ⟨⟨f, q, h1⟩, h2⟩ := h
  have h2 : i = ind p := h2
  have h1 : inn p = some (f, q) := h1
  subst h2
  unfold frOf
  simp only [h1]
  cases p <;> simp only [inn, ind] at h1 ⊢ <;> (try split at h1) <;> (try split at h1) <;> (try simp at h1)
  all_goals (obtain ⟨rfl, rfl⟩ := h1; simp_all [bodies, varK_1, eVar_u, eC_u, aNil_u, acK1_1, acK2_1, aCons_u, tupK_1, eTup_u, ldK_1, lDisp_u, eLK_1, eLMK_1, eL_u, eLM_u, eDiK_1, eDMK_1, eDi_u, eDM_u, opK1_1, opK2_1, opK3_1, eOp_u, negK_1, eNeg_u, slK1_1, slK2_1, slK3_1, slK4_1, ptSK_1, ptN_u, ptS_u, eSlice_u, callK_1, eCall_u, biK_1, blK_1, blK2_1, eBi_u, lBi_u, isiK_1, isiK2_1, eIsi_u, revK_1, revK2_1, lRev_u, andEK_1, andEK_2, orEK_1, orEK_2, notEK_1, orSK_1, ifEK_1, ifEK_2, tofK_1, eAnd_u, eOr_u, eNot_u, eOrS_u, eIf_u, tOf_u, chK1_1, chK2_1, chK3_1, chK3_2, eChain_u, tandK_1, tandK_2, torK_1, torK_2, tnotK_1, tTrue_u, tfAnd_u, tfOr_u, tfNot_u, lcK1_1, lcK2_1, lcK3_1, lcK3_2, lcK4_1, lcK5_1, lcD_n, lcD_c, aLc_u, wipeD_n, wipeD_c, gdName_u, gsK_1, gsNil_u, gdTup_u, gsCons_u, iseqK_1, iseqK2_1, itupK_1, istrK_1, irng1K_1, irng2K_1, seqP_1, seqP_2, iSeq_u, iTupD_u, iStrD_u, iRange1_u, iRange2_u, m1K_1, m1K2_1, m0K_1, s1K_1, eMeth1_u, eMeth0_u, eS1_u, setK_1, asgK_1, asgK2_1, retK_1, expK_1, seqK_1, seqK_2, seqK_3, ifK_1, ifK_2, forK_1, forD_n, forK2_1, forK3_1, forK3_2, forK3_3, fnK_1, fnK_2, gcK_1, sNext_u, sBrk_u, stK_1, stK0_1, stK1_1, stK2_1, sSet_u, sAsg_u, sRet_u, sExp_u, sSeq_u, sIf_u, sFor_u, forD_c, fnD_u, gcFn_u, sSetIx_u, dAdd_i, dAdd_s, dAdd_t, dAdd_l, dSub_i, dCmp_i, dEq_s, dEq_i, dEq_b, dNe_s, dNe_i, dNe_b, dIx_t, dIx_l, dIx_c, dSlice_t, dSlice_l, dSlice_c, dSlice_s, bLen_t, bLen_l, bLen_s, bTup_t, bTup_l, blList_t, blList_l, bInt_i, bInt_t, bInt_f, bMin_i, dIsN_1, dIsN_2, seqL_l, seqL_c, dMod_i, dDiv_i, dMul_r, dMul_l, bLen_c, gc_same, pow12, dicS_d, dicO_1, keyO_s, keyO_i, dgK_1, dgK2_1, diK_1, diK2_f, diK2_t, valD_n, mergeD_n, mergeD_c, putD_n, ienK_1, ppNil_u, ppK_1, ppK2_1, ppK3_1, keysD_n, kdK_1, kdK2_1, ddK_1, ddK2_1, g2K_1, g2K1_1, g2K2_1, g2K3_1, g2K4_1, isDic_d, dpK_1, dpK1_1, dpK2_1, dpK3_1, dbK_1, dbK2_1, bdCopy_1, ddNew_u, dicS_r, dGet_u, dInK_u, valD_c, putD_c, iEnumD_u, ppCons_u, keysD_c, ddDisp_u, eGet2_u, sDput_u, ddCopy_u, List.map_cons, List.map_nil, List.length_cons, List.length_nil, List.cons_append, List.nil_append, List.append_nil, List.getElem?_cons_zero, List.getElem?_cons_succ, List.set_cons_zero, List.set_cons_succ, ofString_inj, ofString_beq, Pc.d, Fr.d, atI, ixN])
theorem about_loop {k : Nat} (S : List O) (d0 : D) : ∀ (l : List (Pc × Nat)) (x : Pc) (z1 z2 : Option D), (∀ e ∈ l, PrE e) → ∃ z1' z2', forD (gdTup 2 (gsCons (gdName 2) (gsCons (gdName 3) gsNil))) (sSet 1 (eOp dAdd (eOp dAdd (eSlice (eVar 2) ptN (ptS (eVar 3))) (eTup (aCons (eVar 1) aNil))) (eSlice (eVar 2) (ptS (eOp dAdd (eVar 3) (eC (.int 1)))) ptN))) (l.map entD) [some d0, some x.d, z1, z2] S =
    some (.nx [some d0, some (plug (l.map frOf) x).d, z1', z2'] S)
  | [], x, z1, z2, _ => ⟨z1, z2, by simp [varK_1, eVar_u, eC_u, aNil_u, acK1_1, acK2_1, aCons_u, tupK_1, eTup_u, ldK_1, lDisp_u, eLK_1, eLMK_1, eL_u, eLM_u, eDiK_1, eDMK_1, eDi_u, eDM_u, opK1_1, opK2_1, opK3_1, eOp_u, negK_1, eNeg_u, slK1_1, slK2_1, slK3_1, slK4_1, ptSK_1, ptN_u, ptS_u, eSlice_u, callK_1, eCall_u, biK_1, blK_1, blK2_1, eBi_u, lBi_u, isiK_1, isiK2_1, eIsi_u, revK_1, revK2_1, lRev_u, andEK_1, andEK_2, orEK_1, orEK_2, notEK_1, orSK_1, ifEK_1, ifEK_2, tofK_1, eAnd_u, eOr_u, eNot_u, eOrS_u, eIf_u, tOf_u, chK1_1, chK2_1, chK3_1, chK3_2, eChain_u, tandK_1, tandK_2, torK_1, torK_2, tnotK_1, tTrue_u, tfAnd_u, tfOr_u, tfNot_u, lcK1_1, lcK2_1, lcK3_1, lcK3_2, lcK4_1, lcK5_1, lcD_n, lcD_c, aLc_u, wipeD_n, wipeD_c, gdName_u, gsK_1, gsNil_u, gdTup_u, gsCons_u, iseqK_1, iseqK2_1, itupK_1, istrK_1, irng1K_1, irng2K_1, seqP_1, seqP_2, iSeq_u, iTupD_u, iStrD_u, iRange1_u, iRange2_u, m1K_1, m1K2_1, m0K_1, s1K_1, eMeth1_u, eMeth0_u, eS1_u, setK_1, asgK_1, asgK2_1, retK_1, expK_1, seqK_1, seqK_2, seqK_3, ifK_1, ifK_2, forK_1, forD_n, forK2_1, forK3_1, forK3_2, forK3_3, fnK_1, fnK_2, gcK_1, sNext_u, sBrk_u, stK_1, stK0_1, stK1_1, stK2_1, sSet_u, sAsg_u, sRet_u, sExp_u, sSeq_u, sIf_u, sFor_u, forD_c, fnD_u, gcFn_u, sSetIx_u, dAdd_i, dAdd_s, dAdd_t, dAdd_l, dSub_i, dCmp_i, dEq_s, dEq_i, dEq_b, dNe_s, dNe_i, dNe_b, dIx_t, dIx_l, dIx_c, dSlice_t, dSlice_l, dSlice_c, dSlice_s, bLen_t, bLen_l, bLen_s, bTup_t, bTup_l, blList_t, blList_l, bInt_i, bInt_t, bInt_f, bMin_i, dIsN_1, dIsN_2, seqL_l, seqL_c, dMod_i, dDiv_i, dMul_r, dMul_l, bLen_c, gc_same, pow12, dicS_d, dicO_1, keyO_s, keyO_i, dgK_1, dgK2_1, diK_1, diK2_f, diK2_t, valD_n, mergeD_n, mergeD_c, putD_n, ienK_1, ppNil_u, ppK_1, ppK2_1, ppK3_1, keysD_n, kdK_1, kdK2_1, ddK_1, ddK2_1, g2K_1, g2K1_1, g2K2_1, g2K3_1, g2K4_1, isDic_d, dpK_1, dpK1_1, dpK2_1, dpK3_1, dbK_1, dbK2_1, bdCopy_1, ddNew_u, dicS_r, dGet_u, dInK_u, valD_c, putD_c, iEnumD_u, ppCons_u, keysD_c, ddDisp_u, eGet2_u, sDput_u, ddCopy_u, List.map_cons, List.map_nil, List.length_cons, List.length_nil, List.cons_append, List.nil_append, List.append_nil, List.getElem?_cons_zero, List.getElem?_cons_succ, List.set_cons_zero, List.set_cons_succ, ofString_inj, ofString_beq, plug]⟩
  | e :: l, x, z1, z2, h => by
    obtain ⟨z1', z2', ih⟩ := about_loop (k := k) S d0 l ((frOf e).w x) (some e.1.d) (some (.int (e.2 : Nat))) (fun e he => h e (List.mem_cons_of_mem _ he))
    refine ⟨z1', z2', ?_⟩
    have st : (sSet 1 (eOp dAdd (eOp dAdd (eSlice (eVar 2) ptN (ptS (eVar 3))) (eTup (aCons (eVar 1) aNil))) (eSlice (eVar 2) (ptS (eOp dAdd (eVar 3) (eC (.int 1)))) ptN))) [some d0, some x.d, some e.1.d, some (.int (e.2 : Nat))] S = some (.nx [some d0, some ((frOf e).w x).d, some e.1.d, some (.int (e.2 : Nat))] S) := by
      obtain ⟨⟨f, q, h1⟩, h2⟩ := h e List.mem_cons_self
      obtain ⟨p, i⟩ := e
      have h2 : i = ind p := h2
      have h1 : inn p = some (f, q) := h1
      subst h2
      unfold frOf
      simp only [h1]
      cases p <;> simp only [inn, ind] at h1 ⊢ <;> (try split at h1) <;> (try split at h1) <;> (try simp at h1)
      all_goals (obtain ⟨rfl, rfl⟩ := h1; simp_all [varK_1, eVar_u, eC_u, aNil_u, acK1_1, acK2_1, aCons_u, tupK_1, eTup_u, ldK_1, lDisp_u, eLK_1, eLMK_1, eL_u, eLM_u, eDiK_1, eDMK_1, eDi_u, eDM_u, opK1_1, opK2_1, opK3_1, eOp_u, negK_1, eNeg_u, slK1_1, slK2_1, slK3_1, slK4_1, ptSK_1, ptN_u, ptS_u, eSlice_u, callK_1, eCall_u, biK_1, blK_1, blK2_1, eBi_u, lBi_u, isiK_1, isiK2_1, eIsi_u, revK_1, revK2_1, lRev_u, andEK_1, andEK_2, orEK_1, orEK_2, notEK_1, orSK_1, ifEK_1, ifEK_2, tofK_1, eAnd_u, eOr_u, eNot_u, eOrS_u, eIf_u, tOf_u, chK1_1, chK2_1, chK3_1, chK3_2, eChain_u, tandK_1, tandK_2, torK_1, torK_2, tnotK_1, tTrue_u, tfAnd_u, tfOr_u, tfNot_u, lcK1_1, lcK2_1, lcK3_1, lcK3_2, lcK4_1, lcK5_1, lcD_n, lcD_c, aLc_u, wipeD_n, wipeD_c, gdName_u, gsK_1, gsNil_u, gdTup_u, gsCons_u, iseqK_1, iseqK2_1, itupK_1, istrK_1, irng1K_1, irng2K_1, seqP_1, seqP_2, iSeq_u, iTupD_u, iStrD_u, iRange1_u, iRange2_u, m1K_1, m1K2_1, m0K_1, s1K_1, eMeth1_u, eMeth0_u, eS1_u, setK_1, asgK_1, asgK2_1, retK_1, expK_1, seqK_1, seqK_2, seqK_3, ifK_1, ifK_2, forK_1, forD_n, forK2_1, forK3_1, forK3_2, forK3_3, fnK_1, fnK_2, gcK_1, sNext_u, sBrk_u, stK_1, stK0_1, stK1_1, stK2_1, sSet_u, sAsg_u, sRet_u, sExp_u, sSeq_u, sIf_u, sFor_u, forD_c, fnD_u, gcFn_u, sSetIx_u, dAdd_i, dAdd_s, dAdd_t, dAdd_l, dSub_i, dCmp_i, dEq_s, dEq_i, dEq_b, dNe_s, dNe_i, dNe_b, dIx_t, dIx_l, dIx_c, dSlice_t, dSlice_l, dSlice_c, dSlice_s, bLen_t, bLen_l, bLen_s, bTup_t, bTup_l, blList_t, blList_l, bInt_i, bInt_t, bInt_f, bMin_i, dIsN_1, dIsN_2, seqL_l, seqL_c, dMod_i, dDiv_i, dMul_r, dMul_l, bLen_c, gc_same, pow12, dicS_d, dicO_1, keyO_s, keyO_i, dgK_1, dgK2_1, diK_1, diK2_f, diK2_t, valD_n, mergeD_n, mergeD_c, putD_n, ienK_1, ppNil_u, ppK_1, ppK2_1, ppK3_1, keysD_n, kdK_1, kdK2_1, ddK_1, ddK2_1, g2K_1, g2K1_1, g2K2_1, g2K3_1, g2K4_1, isDic_d, dpK_1, dpK1_1, dpK2_1, dpK3_1, dbK_1, dbK2_1, bdCopy_1, ddNew_u, dicS_r, dGet_u, dInK_u, valD_c, putD_c, iEnumD_u, ppCons_u, keysD_c, ddDisp_u, eGet2_u, sDput_u, ddCopy_u, List.map_cons, List.map_nil, List.length_cons, List.length_nil, List.cons_append, List.nil_append, List.append_nil, List.getElem?_cons_zero, List.getElem?_cons_succ, List.set_cons_zero, List.set_cons_succ, ofString_inj, ofString_beq, Pc.d, Fr.w, atI, ixN, cutD, HT.sIx, sizeLine_eq])
    simp only [List.map_cons]
    rw [forD_c]
    have gg : gdTup 2 (gsCons (gdName 2) (gsCons (gdName 3) gsNil)) (entD e) [some d0, some x.d, z1, z2] = some [some d0, some x.d, some e.1.d, some (.int (e.2 : Nat))] := by
      simp [entD, gdTup, gsCons, gsNil, gdName]
    rw [gg, forK2_1, st, forK3_1, ih]
    rfl
theorem about_D {k : Nat} (hk : 1 ≤ k) (l : List (Pc × Nat)) (x : Pc) (S : List O) (h : ∀ e ∈ l, PrE e) : Fk k ._law_about [.lst (l.map entD), x.d] S = some ((plug (l.map frOf).reverse x).d, S) := by
  obtain ⟨k, rfl⟩ : ∃ j, k = j + 1 := ⟨k - 1, by omega⟩
  obtain ⟨z1, z2, lp⟩ := about_loop (k := k) S (.lst (l.map entD)) l.reverse x none none (fun e he => h e (List.mem_reverse.mp he))
  rw [List.map_reverse, List.map_reverse] at lp
  rw [Fk_s]
  simp [bodies, varK_1, eVar_u, eC_u, aNil_u, acK1_1, acK2_1, aCons_u, tupK_1, eTup_u, ldK_1, lDisp_u, eLK_1, eLMK_1, eL_u, eLM_u, eDiK_1, eDMK_1, eDi_u, eDM_u, opK1_1, opK2_1, opK3_1, eOp_u, negK_1, eNeg_u, slK1_1, slK2_1, slK3_1, slK4_1, ptSK_1, ptN_u, ptS_u, eSlice_u, callK_1, eCall_u, biK_1, blK_1, blK2_1, eBi_u, lBi_u, isiK_1, isiK2_1, eIsi_u, revK_1, revK2_1, lRev_u, andEK_1, andEK_2, orEK_1, orEK_2, notEK_1, orSK_1, ifEK_1, ifEK_2, tofK_1, eAnd_u, eOr_u, eNot_u, eOrS_u, eIf_u, tOf_u, chK1_1, chK2_1, chK3_1, chK3_2, eChain_u, tandK_1, tandK_2, torK_1, torK_2, tnotK_1, tTrue_u, tfAnd_u, tfOr_u, tfNot_u, lcK1_1, lcK2_1, lcK3_1, lcK3_2, lcK4_1, lcK5_1, lcD_n, lcD_c, aLc_u, wipeD_n, wipeD_c, gdName_u, gsK_1, gsNil_u, gdTup_u, gsCons_u, iseqK_1, iseqK2_1, itupK_1, istrK_1, irng1K_1, irng2K_1, seqP_1, seqP_2, iSeq_u, iTupD_u, iStrD_u, iRange1_u, iRange2_u, m1K_1, m1K2_1, m0K_1, s1K_1, eMeth1_u, eMeth0_u, eS1_u, setK_1, asgK_1, asgK2_1, retK_1, expK_1, seqK_1, seqK_2, seqK_3, ifK_1, ifK_2, forK_1, forD_n, forK2_1, forK3_1, forK3_2, forK3_3, fnK_1, fnK_2, gcK_1, sNext_u, sBrk_u, stK_1, stK0_1, stK1_1, stK2_1, sSet_u, sAsg_u, sRet_u, sExp_u, sSeq_u, sIf_u, sFor_u, forD_c, fnD_u, gcFn_u, sSetIx_u, dAdd_i, dAdd_s, dAdd_t, dAdd_l, dSub_i, dCmp_i, dEq_s, dEq_i, dEq_b, dNe_s, dNe_i, dNe_b, dIx_t, dIx_l, dIx_c, dSlice_t, dSlice_l, dSlice_c, dSlice_s, bLen_t, bLen_l, bLen_s, bTup_t, bTup_l, blList_t, blList_l, bInt_i, bInt_t, bInt_f, bMin_i, dIsN_1, dIsN_2, seqL_l, seqL_c, dMod_i, dDiv_i, dMul_r, dMul_l, bLen_c, gc_same, pow12, dicS_d, dicO_1, keyO_s, keyO_i, dgK_1, dgK2_1, diK_1, diK2_f, diK2_t, valD_n, mergeD_n, mergeD_c, putD_n, ienK_1, ppNil_u, ppK_1, ppK2_1, ppK3_1, keysD_n, kdK_1, kdK2_1, ddK_1, ddK2_1, g2K_1, g2K1_1, g2K2_1, g2K3_1, g2K4_1, isDic_d, dpK_1, dpK1_1, dpK2_1, dpK3_1, dbK_1, dbK2_1, bdCopy_1, ddNew_u, dicS_r, dGet_u, dInK_u, valD_c, putD_c, iEnumD_u, ppCons_u, keysD_c, ddDisp_u, eGet2_u, sDput_u, ddCopy_u, List.map_cons, List.map_nil, List.length_cons, List.length_nil, List.cons_append, List.nil_append, List.append_nil, List.getElem?_cons_zero, List.getElem?_cons_succ, List.set_cons_zero, List.set_cons_succ, ofString_inj, ofString_beq, lp]
theorem in_loop {k : Nat} (S : List O) (d0 : D) (bb : B) (hb : ∀ (f : Fr) (p : Pc), bb [some d0, some p.d, some f.d] S = some (.nx [some d0, some (f.w p).d, some f.d] S)) : ∀ (fs : List Fr) (p : Pc) (z : Option D), ∃ z', forD (gdName 2) bb (Fr.ds fs) [some d0, some p.d, z] S =
    some (.nx [some d0, some (plug fs p).d, z'] S)
  | [], p, z => ⟨z, by simp [Fr.ds, varK_1, eVar_u, eC_u, aNil_u, acK1_1, acK2_1, aCons_u, tupK_1, eTup_u, ldK_1, lDisp_u, eLK_1, eLMK_1, eL_u, eLM_u, eDiK_1, eDMK_1, eDi_u, eDM_u, opK1_1, opK2_1, opK3_1, eOp_u, negK_1, eNeg_u, slK1_1, slK2_1, slK3_1, slK4_1, ptSK_1, ptN_u, ptS_u, eSlice_u, callK_1, eCall_u, biK_1, blK_1, blK2_1, eBi_u, lBi_u, isiK_1, isiK2_1, eIsi_u, revK_1, revK2_1, lRev_u, andEK_1, andEK_2, orEK_1, orEK_2, notEK_1, orSK_1, ifEK_1, ifEK_2, tofK_1, eAnd_u, eOr_u, eNot_u, eOrS_u, eIf_u, tOf_u, chK1_1, chK2_1, chK3_1, chK3_2, eChain_u, tandK_1, tandK_2, torK_1, torK_2, tnotK_1, tTrue_u, tfAnd_u, tfOr_u, tfNot_u, lcK1_1, lcK2_1, lcK3_1, lcK3_2, lcK4_1, lcK5_1, lcD_n, lcD_c, aLc_u, wipeD_n, wipeD_c, gdName_u, gsK_1, gsNil_u, gdTup_u, gsCons_u, iseqK_1, iseqK2_1, itupK_1, istrK_1, irng1K_1, irng2K_1, seqP_1, seqP_2, iSeq_u, iTupD_u, iStrD_u, iRange1_u, iRange2_u, m1K_1, m1K2_1, m0K_1, s1K_1, eMeth1_u, eMeth0_u, eS1_u, setK_1, asgK_1, asgK2_1, retK_1, expK_1, seqK_1, seqK_2, seqK_3, ifK_1, ifK_2, forK_1, forD_n, forK2_1, forK3_1, forK3_2, forK3_3, fnK_1, fnK_2, gcK_1, sNext_u, sBrk_u, stK_1, stK0_1, stK1_1, stK2_1, sSet_u, sAsg_u, sRet_u, sExp_u, sSeq_u, sIf_u, sFor_u, forD_c, fnD_u, gcFn_u, sSetIx_u, dAdd_i, dAdd_s, dAdd_t, dAdd_l, dSub_i, dCmp_i, dEq_s, dEq_i, dEq_b, dNe_s, dNe_i, dNe_b, dIx_t, dIx_l, dIx_c, dSlice_t, dSlice_l, dSlice_c, dSlice_s, bLen_t, bLen_l, bLen_s, bTup_t, bTup_l, blList_t, blList_l, bInt_i, bInt_t, bInt_f, bMin_i, dIsN_1, dIsN_2, seqL_l, seqL_c, dMod_i, dDiv_i, dMul_r, dMul_l, bLen_c, gc_same, pow12, dicS_d, dicO_1, keyO_s, keyO_i, dgK_1, dgK2_1, diK_1, diK2_f, diK2_t, valD_n, mergeD_n, mergeD_c, putD_n, ienK_1, ppNil_u, ppK_1, ppK2_1, ppK3_1, keysD_n, kdK_1, kdK2_1, ddK_1, ddK2_1, g2K_1, g2K1_1, g2K2_1, g2K3_1, g2K4_1, isDic_d, dpK_1, dpK1_1, dpK2_1, dpK3_1, dbK_1, dbK2_1, bdCopy_1, ddNew_u, dicS_r, dGet_u, dInK_u, valD_c, putD_c, iEnumD_u, ppCons_u, keysD_c, ddDisp_u, eGet2_u, sDput_u, ddCopy_u, List.map_cons, List.map_nil, List.length_cons, List.length_nil, List.cons_append, List.nil_append, List.append_nil, List.getElem?_cons_zero, List.getElem?_cons_succ, List.set_cons_zero, List.set_cons_succ, ofString_inj, ofString_beq, plug]⟩
  | f :: fs, p, z => by
    obtain ⟨z', h⟩ := in_loop (k := k) S d0 bb hb fs (f.w p) (some f.d)
    refine ⟨z', ?_⟩
    simp only [Fr.ds]
    rw [forD_c, gdName_u, forK2_1]
    simp only [List.set_cons_succ, List.set_cons_zero]
    rw [hb, forK3_1, h]
    rfl
theorem in_frames_D {k : Nat} (hk : 1 ≤ k) (fs : List Fr) (p : Pc) (S : List O) : Fk k ._law_in_frames [.tup (Fr.ds fs), p.d] S = some ((plug fs p).d, S) := by
  obtain ⟨k, rfl⟩ : ∃ j, k = j + 1 := ⟨k - 1, by omega⟩
  rw [Fk_s]
  simp only [bodies, varK_1, eVar_u, eC_u, aNil_u, acK1_1, acK2_1, aCons_u, tupK_1, eTup_u, ldK_1, lDisp_u, eLK_1, eLMK_1, eL_u, eLM_u, eDiK_1, eDMK_1, eDi_u, eDM_u, opK1_1, opK2_1, opK3_1, eOp_u, negK_1, eNeg_u, slK1_1, slK2_1, slK3_1, slK4_1, ptSK_1, ptN_u, ptS_u, eSlice_u, callK_1, eCall_u, biK_1, blK_1, blK2_1, eBi_u, lBi_u, isiK_1, isiK2_1, eIsi_u, revK_1, revK2_1, lRev_u, andEK_1, andEK_2, orEK_1, orEK_2, notEK_1, orSK_1, ifEK_1, ifEK_2, tofK_1, eAnd_u, eOr_u, eNot_u, eOrS_u, eIf_u, tOf_u, chK1_1, chK2_1, chK3_1, chK3_2, eChain_u, tandK_1, tandK_2, torK_1, torK_2, tnotK_1, tTrue_u, tfAnd_u, tfOr_u, tfNot_u, lcK1_1, lcK2_1, lcK3_1, lcK3_2, lcK4_1, lcK5_1, lcD_n, lcD_c, aLc_u, wipeD_n, wipeD_c, gdName_u, gsK_1, gsNil_u, gdTup_u, gsCons_u, iseqK_1, iseqK2_1, itupK_1, istrK_1, irng1K_1, irng2K_1, seqP_1, seqP_2, iSeq_u, iTupD_u, iStrD_u, iRange1_u, iRange2_u, m1K_1, m1K2_1, m0K_1, s1K_1, eMeth1_u, eMeth0_u, eS1_u, setK_1, asgK_1, asgK2_1, retK_1, expK_1, seqK_1, seqK_2, seqK_3, ifK_1, ifK_2, forK_1, forD_n, forK2_1, forK3_1, forK3_2, forK3_3, fnK_1, fnK_2, gcK_1, sNext_u, sBrk_u, stK_1, stK0_1, stK1_1, stK2_1, sSet_u, sAsg_u, sRet_u, sExp_u, sSeq_u, sIf_u, sFor_u, forD_c, fnD_u, gcFn_u, sSetIx_u, dAdd_i, dAdd_s, dAdd_t, dAdd_l, dSub_i, dCmp_i, dEq_s, dEq_i, dEq_b, dNe_s, dNe_i, dNe_b, dIx_t, dIx_l, dIx_c, dSlice_t, dSlice_l, dSlice_c, dSlice_s, bLen_t, bLen_l, bLen_s, bTup_t, bTup_l, blList_t, blList_l, bInt_i, bInt_t, bInt_f, bMin_i, dIsN_1, dIsN_2, seqL_l, seqL_c, dMod_i, dDiv_i, dMul_r, dMul_l, bLen_c, gc_same, pow12, dicS_d, dicO_1, keyO_s, keyO_i, dgK_1, dgK2_1, diK_1, diK2_f, diK2_t, valD_n, mergeD_n, mergeD_c, putD_n, ienK_1, ppNil_u, ppK_1, ppK2_1, ppK3_1, keysD_n, kdK_1, kdK2_1, ddK_1, ddK2_1, g2K_1, g2K1_1, g2K2_1, g2K3_1, g2K4_1, isDic_d, dpK_1, dpK1_1, dpK2_1, dpK3_1, dbK_1, dbK2_1, bdCopy_1, ddNew_u, dicS_r, dGet_u, dInK_u, valD_c, putD_c, iEnumD_u, ppCons_u, keysD_c, ddDisp_u, eGet2_u, sDput_u, ddCopy_u, List.map_cons, List.map_nil, List.length_cons, List.length_nil, List.cons_append, List.nil_append, List.append_nil, List.getElem?_cons_zero, List.getElem?_cons_succ, List.set_cons_zero, List.set_cons_succ, ofString_inj, ofString_beq]
  generalize hbb : (sIf (tfOr (tOf (eOp (dEq 64) (eOp dIx (eVar 2) (eC (.int 0))) (eC (.str "caller")))) (tOf (eOp (dEq 64) (eOp dIx (eVar 2) (eC (.int 0))) (eC (.str "adder"))))) _ _ : B) = bb
  have hb : ∀ (f : Fr) (p : Pc), bb [some (.tup (Fr.ds fs)), some p.d, some f.d] S = some (.nx [some (.tup (Fr.ds fs)), some (f.w p).d, some f.d] S) := by
    intro f p
    subst hbb
    cases f <;> simp [varK_1, eVar_u, eC_u, aNil_u, acK1_1, acK2_1, aCons_u, tupK_1, eTup_u, ldK_1, lDisp_u, eLK_1, eLMK_1, eL_u, eLM_u, eDiK_1, eDMK_1, eDi_u, eDM_u, opK1_1, opK2_1, opK3_1, eOp_u, negK_1, eNeg_u, slK1_1, slK2_1, slK3_1, slK4_1, ptSK_1, ptN_u, ptS_u, eSlice_u, callK_1, eCall_u, biK_1, blK_1, blK2_1, eBi_u, lBi_u, isiK_1, isiK2_1, eIsi_u, revK_1, revK2_1, lRev_u, andEK_1, andEK_2, orEK_1, orEK_2, notEK_1, orSK_1, ifEK_1, ifEK_2, tofK_1, eAnd_u, eOr_u, eNot_u, eOrS_u, eIf_u, tOf_u, chK1_1, chK2_1, chK3_1, chK3_2, eChain_u, tandK_1, tandK_2, torK_1, torK_2, tnotK_1, tTrue_u, tfAnd_u, tfOr_u, tfNot_u, lcK1_1, lcK2_1, lcK3_1, lcK3_2, lcK4_1, lcK5_1, lcD_n, lcD_c, aLc_u, wipeD_n, wipeD_c, gdName_u, gsK_1, gsNil_u, gdTup_u, gsCons_u, iseqK_1, iseqK2_1, itupK_1, istrK_1, irng1K_1, irng2K_1, seqP_1, seqP_2, iSeq_u, iTupD_u, iStrD_u, iRange1_u, iRange2_u, m1K_1, m1K2_1, m0K_1, s1K_1, eMeth1_u, eMeth0_u, eS1_u, setK_1, asgK_1, asgK2_1, retK_1, expK_1, seqK_1, seqK_2, seqK_3, ifK_1, ifK_2, forK_1, forD_n, forK2_1, forK3_1, forK3_2, forK3_3, fnK_1, fnK_2, gcK_1, sNext_u, sBrk_u, stK_1, stK0_1, stK1_1, stK2_1, sSet_u, sAsg_u, sRet_u, sExp_u, sSeq_u, sIf_u, sFor_u, forD_c, fnD_u, gcFn_u, sSetIx_u, dAdd_i, dAdd_s, dAdd_t, dAdd_l, dSub_i, dCmp_i, dEq_s, dEq_i, dEq_b, dNe_s, dNe_i, dNe_b, dIx_t, dIx_l, dIx_c, dSlice_t, dSlice_l, dSlice_c, dSlice_s, bLen_t, bLen_l, bLen_s, bTup_t, bTup_l, blList_t, blList_l, bInt_i, bInt_t, bInt_f, bMin_i, dIsN_1, dIsN_2, seqL_l, seqL_c, dMod_i, dDiv_i, dMul_r, dMul_l, bLen_c, gc_same, pow12, dicS_d, dicO_1, keyO_s, keyO_i, dgK_1, dgK2_1, diK_1, diK2_f, diK2_t, valD_n, mergeD_n, mergeD_c, putD_n, ienK_1, ppNil_u, ppK_1, ppK2_1, ppK3_1, keysD_n, kdK_1, kdK2_1, ddK_1, ddK2_1, g2K_1, g2K1_1, g2K2_1, g2K3_1, g2K4_1, isDic_d, dpK_1, dpK1_1, dpK2_1, dpK3_1, dbK_1, dbK2_1, bdCopy_1, ddNew_u, dicS_r, dGet_u, dInK_u, valD_c, putD_c, iEnumD_u, ppCons_u, keysD_c, ddDisp_u, eGet2_u, sDput_u, ddCopy_u, List.map_cons, List.map_nil, List.length_cons, List.length_nil, List.cons_append, List.nil_append, List.append_nil, List.getElem?_cons_zero, List.getElem?_cons_succ, List.set_cons_zero, List.set_cons_succ, ofString_inj, ofString_beq, Fr.d, Fr.w, Pc.d, atI, ixN]
  obtain ⟨z', h⟩ := in_loop (k := k) S (.tup (Fr.ds fs)) bb hb fs p none
  simp [varK_1, eVar_u, eC_u, aNil_u, acK1_1, acK2_1, aCons_u, tupK_1, eTup_u, ldK_1, lDisp_u, eLK_1, eLMK_1, eL_u, eLM_u, eDiK_1, eDMK_1, eDi_u, eDM_u, opK1_1, opK2_1, opK3_1, eOp_u, negK_1, eNeg_u, slK1_1, slK2_1, slK3_1, slK4_1, ptSK_1, ptN_u, ptS_u, eSlice_u, callK_1, eCall_u, biK_1, blK_1, blK2_1, eBi_u, lBi_u, isiK_1, isiK2_1, eIsi_u, revK_1, revK2_1, lRev_u, andEK_1, andEK_2, orEK_1, orEK_2, notEK_1, orSK_1, ifEK_1, ifEK_2, tofK_1, eAnd_u, eOr_u, eNot_u, eOrS_u, eIf_u, tOf_u, chK1_1, chK2_1, chK3_1, chK3_2, eChain_u, tandK_1, tandK_2, torK_1, torK_2, tnotK_1, tTrue_u, tfAnd_u, tfOr_u, tfNot_u, lcK1_1, lcK2_1, lcK3_1, lcK3_2, lcK4_1, lcK5_1, lcD_n, lcD_c, aLc_u, wipeD_n, wipeD_c, gdName_u, gsK_1, gsNil_u, gdTup_u, gsCons_u, iseqK_1, iseqK2_1, itupK_1, istrK_1, irng1K_1, irng2K_1, seqP_1, seqP_2, iSeq_u, iTupD_u, iStrD_u, iRange1_u, iRange2_u, m1K_1, m1K2_1, m0K_1, s1K_1, eMeth1_u, eMeth0_u, eS1_u, setK_1, asgK_1, asgK2_1, retK_1, expK_1, seqK_1, seqK_2, seqK_3, ifK_1, ifK_2, forK_1, forD_n, forK2_1, forK3_1, forK3_2, forK3_3, fnK_1, fnK_2, gcK_1, sNext_u, sBrk_u, stK_1, stK0_1, stK1_1, stK2_1, sSet_u, sAsg_u, sRet_u, sExp_u, sSeq_u, sIf_u, sFor_u, forD_c, fnD_u, gcFn_u, sSetIx_u, dAdd_i, dAdd_s, dAdd_t, dAdd_l, dSub_i, dCmp_i, dEq_s, dEq_i, dEq_b, dNe_s, dNe_i, dNe_b, dIx_t, dIx_l, dIx_c, dSlice_t, dSlice_l, dSlice_c, dSlice_s, bLen_t, bLen_l, bLen_s, bTup_t, bTup_l, blList_t, blList_l, bInt_i, bInt_t, bInt_f, bMin_i, dIsN_1, dIsN_2, seqL_l, seqL_c, dMod_i, dDiv_i, dMul_r, dMul_l, bLen_c, gc_same, pow12, dicS_d, dicO_1, keyO_s, keyO_i, dgK_1, dgK2_1, diK_1, diK2_f, diK2_t, valD_n, mergeD_n, mergeD_c, putD_n, ienK_1, ppNil_u, ppK_1, ppK2_1, ppK3_1, keysD_n, kdK_1, kdK2_1, ddK_1, ddK2_1, g2K_1, g2K1_1, g2K2_1, g2K3_1, g2K4_1, isDic_d, dpK_1, dpK1_1, dpK2_1, dpK3_1, dbK_1, dbK2_1, bdCopy_1, ddNew_u, dicS_r, dGet_u, dInK_u, valD_c, putD_c, iEnumD_u, ppCons_u, keysD_c, ddDisp_u, eGet2_u, sDput_u, ddCopy_u, List.map_cons, List.map_nil, List.length_cons, List.length_nil, List.cons_append, List.nil_append, List.append_nil, List.getElem?_cons_zero, List.getElem?_cons_succ, List.set_cons_zero, List.set_cons_succ, ofString_inj, ofString_beq, h]
theorem becomes_D {k : Nat} (h : Pc) (S : List O) (hi : inn h = none) (hv : h.isV = false) (hn : ∀ x, h ≠ .name x) (ht : ∀ a x b, h ≠ .take a x b) (hb : bdc h + 2 ≤ k) (h3 : 2 ≤ k) : Fk k ._law_becomes [h.d] S = some (becD (becomes h), S) := by
  obtain ⟨k, rfl⟩ : ∃ j, k = j + 1 := ⟨k - 1, by omega⟩
  rw [Fk_s]
  cases h with
  | num n => simp [Pc.isV] at hv
  | shut b x c => simp [Pc.isV] at hv
  | kept b fs => simp [Pc.isV] at hv
  | name x => exact absurd rfl (hn x)
  | take a x b => exact absurd rfl (ht a x b)
  | fn a x b => simp [bodies, varK_1, eVar_u, eC_u, aNil_u, acK1_1, acK2_1, aCons_u, tupK_1, eTup_u, ldK_1, lDisp_u, eLK_1, eLMK_1, eL_u, eLM_u, eDiK_1, eDMK_1, eDi_u, eDM_u, opK1_1, opK2_1, opK3_1, eOp_u, negK_1, eNeg_u, slK1_1, slK2_1, slK3_1, slK4_1, ptSK_1, ptN_u, ptS_u, eSlice_u, callK_1, eCall_u, biK_1, blK_1, blK2_1, eBi_u, lBi_u, isiK_1, isiK2_1, eIsi_u, revK_1, revK2_1, lRev_u, andEK_1, andEK_2, orEK_1, orEK_2, notEK_1, orSK_1, ifEK_1, ifEK_2, tofK_1, eAnd_u, eOr_u, eNot_u, eOrS_u, eIf_u, tOf_u, chK1_1, chK2_1, chK3_1, chK3_2, eChain_u, tandK_1, tandK_2, torK_1, torK_2, tnotK_1, tTrue_u, tfAnd_u, tfOr_u, tfNot_u, lcK1_1, lcK2_1, lcK3_1, lcK3_2, lcK4_1, lcK5_1, lcD_n, lcD_c, aLc_u, wipeD_n, wipeD_c, gdName_u, gsK_1, gsNil_u, gdTup_u, gsCons_u, iseqK_1, iseqK2_1, itupK_1, istrK_1, irng1K_1, irng2K_1, seqP_1, seqP_2, iSeq_u, iTupD_u, iStrD_u, iRange1_u, iRange2_u, m1K_1, m1K2_1, m0K_1, s1K_1, eMeth1_u, eMeth0_u, eS1_u, setK_1, asgK_1, asgK2_1, retK_1, expK_1, seqK_1, seqK_2, seqK_3, ifK_1, ifK_2, forK_1, forD_n, forK2_1, forK3_1, forK3_2, forK3_3, fnK_1, fnK_2, gcK_1, sNext_u, sBrk_u, stK_1, stK0_1, stK1_1, stK2_1, sSet_u, sAsg_u, sRet_u, sExp_u, sSeq_u, sIf_u, sFor_u, forD_c, fnD_u, gcFn_u, sSetIx_u, dAdd_i, dAdd_s, dAdd_t, dAdd_l, dSub_i, dCmp_i, dEq_s, dEq_i, dEq_b, dNe_s, dNe_i, dNe_b, dIx_t, dIx_l, dIx_c, dSlice_t, dSlice_l, dSlice_c, dSlice_s, bLen_t, bLen_l, bLen_s, bTup_t, bTup_l, blList_t, blList_l, bInt_i, bInt_t, bInt_f, bMin_i, dIsN_1, dIsN_2, seqL_l, seqL_c, dMod_i, dDiv_i, dMul_r, dMul_l, bLen_c, gc_same, pow12, dicS_d, dicO_1, keyO_s, keyO_i, dgK_1, dgK2_1, diK_1, diK2_f, diK2_t, valD_n, mergeD_n, mergeD_c, putD_n, ienK_1, ppNil_u, ppK_1, ppK2_1, ppK3_1, keysD_n, kdK_1, kdK2_1, ddK_1, ddK2_1, g2K_1, g2K1_1, g2K2_1, g2K3_1, g2K4_1, isDic_d, dpK_1, dpK1_1, dpK2_1, dpK3_1, dbK_1, dbK2_1, bdCopy_1, ddNew_u, dicS_r, dGet_u, dInK_u, valD_c, putD_c, iEnumD_u, ppCons_u, keysD_c, ddDisp_u, eGet2_u, sDput_u, ddCopy_u, List.map_cons, List.map_nil, List.length_cons, List.length_nil, List.cons_append, List.nil_append, List.append_nil, List.getElem?_cons_zero, List.getElem?_cons_succ, List.set_cons_zero, List.set_cons_succ, ofString_inj, ofString_beq, Pc.d, atI, ixN, becomes, becD]
  | rnd b => simp [bodies, varK_1, eVar_u, eC_u, aNil_u, acK1_1, acK2_1, aCons_u, tupK_1, eTup_u, ldK_1, lDisp_u, eLK_1, eLMK_1, eL_u, eLM_u, eDiK_1, eDMK_1, eDi_u, eDM_u, opK1_1, opK2_1, opK3_1, eOp_u, negK_1, eNeg_u, slK1_1, slK2_1, slK3_1, slK4_1, ptSK_1, ptN_u, ptS_u, eSlice_u, callK_1, eCall_u, biK_1, blK_1, blK2_1, eBi_u, lBi_u, isiK_1, isiK2_1, eIsi_u, revK_1, revK2_1, lRev_u, andEK_1, andEK_2, orEK_1, orEK_2, notEK_1, orSK_1, ifEK_1, ifEK_2, tofK_1, eAnd_u, eOr_u, eNot_u, eOrS_u, eIf_u, tOf_u, chK1_1, chK2_1, chK3_1, chK3_2, eChain_u, tandK_1, tandK_2, torK_1, torK_2, tnotK_1, tTrue_u, tfAnd_u, tfOr_u, tfNot_u, lcK1_1, lcK2_1, lcK3_1, lcK3_2, lcK4_1, lcK5_1, lcD_n, lcD_c, aLc_u, wipeD_n, wipeD_c, gdName_u, gsK_1, gsNil_u, gdTup_u, gsCons_u, iseqK_1, iseqK2_1, itupK_1, istrK_1, irng1K_1, irng2K_1, seqP_1, seqP_2, iSeq_u, iTupD_u, iStrD_u, iRange1_u, iRange2_u, m1K_1, m1K2_1, m0K_1, s1K_1, eMeth1_u, eMeth0_u, eS1_u, setK_1, asgK_1, asgK2_1, retK_1, expK_1, seqK_1, seqK_2, seqK_3, ifK_1, ifK_2, forK_1, forD_n, forK2_1, forK3_1, forK3_2, forK3_3, fnK_1, fnK_2, gcK_1, sNext_u, sBrk_u, stK_1, stK0_1, stK1_1, stK2_1, sSet_u, sAsg_u, sRet_u, sExp_u, sSeq_u, sIf_u, sFor_u, forD_c, fnD_u, gcFn_u, sSetIx_u, dAdd_i, dAdd_s, dAdd_t, dAdd_l, dSub_i, dCmp_i, dEq_s, dEq_i, dEq_b, dNe_s, dNe_i, dNe_b, dIx_t, dIx_l, dIx_c, dSlice_t, dSlice_l, dSlice_c, dSlice_s, bLen_t, bLen_l, bLen_s, bTup_t, bTup_l, blList_t, blList_l, bInt_i, bInt_t, bInt_f, bMin_i, dIsN_1, dIsN_2, seqL_l, seqL_c, dMod_i, dDiv_i, dMul_r, dMul_l, bLen_c, gc_same, pow12, dicS_d, dicO_1, keyO_s, keyO_i, dgK_1, dgK2_1, diK_1, diK2_f, diK2_t, valD_n, mergeD_n, mergeD_c, putD_n, ienK_1, ppNil_u, ppK_1, ppK2_1, ppK3_1, keysD_n, kdK_1, kdK2_1, ddK_1, ddK2_1, g2K_1, g2K1_1, g2K2_1, g2K3_1, g2K4_1, isDic_d, dpK_1, dpK1_1, dpK2_1, dpK3_1, dbK_1, dbK2_1, bdCopy_1, ddNew_u, dicS_r, dGet_u, dInK_u, valD_c, putD_c, iEnumD_u, ppCons_u, keysD_c, ddDisp_u, eGet2_u, sDput_u, ddCopy_u, List.map_cons, List.map_nil, List.length_cons, List.length_nil, List.cons_append, List.nil_append, List.append_nil, List.getElem?_cons_zero, List.getElem?_cons_succ, List.set_cons_zero, List.set_cons_succ, ofString_inj, ofString_beq, Pc.d, atI, ixN, becomes, becD]
  | call a f g =>
    have hf : f.isV = true := by
      cases q : f.isV with
      | true => rfl
      | false => simp [inn, q] at hi
    cases f with
    | num n => simp [bodies, varK_1, eVar_u, eC_u, aNil_u, acK1_1, acK2_1, aCons_u, tupK_1, eTup_u, ldK_1, lDisp_u, eLK_1, eLMK_1, eL_u, eLM_u, eDiK_1, eDMK_1, eDi_u, eDM_u, opK1_1, opK2_1, opK3_1, eOp_u, negK_1, eNeg_u, slK1_1, slK2_1, slK3_1, slK4_1, ptSK_1, ptN_u, ptS_u, eSlice_u, callK_1, eCall_u, biK_1, blK_1, blK2_1, eBi_u, lBi_u, isiK_1, isiK2_1, eIsi_u, revK_1, revK2_1, lRev_u, andEK_1, andEK_2, orEK_1, orEK_2, notEK_1, orSK_1, ifEK_1, ifEK_2, tofK_1, eAnd_u, eOr_u, eNot_u, eOrS_u, eIf_u, tOf_u, chK1_1, chK2_1, chK3_1, chK3_2, eChain_u, tandK_1, tandK_2, torK_1, torK_2, tnotK_1, tTrue_u, tfAnd_u, tfOr_u, tfNot_u, lcK1_1, lcK2_1, lcK3_1, lcK3_2, lcK4_1, lcK5_1, lcD_n, lcD_c, aLc_u, wipeD_n, wipeD_c, gdName_u, gsK_1, gsNil_u, gdTup_u, gsCons_u, iseqK_1, iseqK2_1, itupK_1, istrK_1, irng1K_1, irng2K_1, seqP_1, seqP_2, iSeq_u, iTupD_u, iStrD_u, iRange1_u, iRange2_u, m1K_1, m1K2_1, m0K_1, s1K_1, eMeth1_u, eMeth0_u, eS1_u, setK_1, asgK_1, asgK2_1, retK_1, expK_1, seqK_1, seqK_2, seqK_3, ifK_1, ifK_2, forK_1, forD_n, forK2_1, forK3_1, forK3_2, forK3_3, fnK_1, fnK_2, gcK_1, sNext_u, sBrk_u, stK_1, stK0_1, stK1_1, stK2_1, sSet_u, sAsg_u, sRet_u, sExp_u, sSeq_u, sIf_u, sFor_u, forD_c, fnD_u, gcFn_u, sSetIx_u, dAdd_i, dAdd_s, dAdd_t, dAdd_l, dSub_i, dCmp_i, dEq_s, dEq_i, dEq_b, dNe_s, dNe_i, dNe_b, dIx_t, dIx_l, dIx_c, dSlice_t, dSlice_l, dSlice_c, dSlice_s, bLen_t, bLen_l, bLen_s, bTup_t, bTup_l, blList_t, blList_l, bInt_i, bInt_t, bInt_f, bMin_i, dIsN_1, dIsN_2, seqL_l, seqL_c, dMod_i, dDiv_i, dMul_r, dMul_l, bLen_c, gc_same, pow12, dicS_d, dicO_1, keyO_s, keyO_i, dgK_1, dgK2_1, diK_1, diK2_f, diK2_t, valD_n, mergeD_n, mergeD_c, putD_n, ienK_1, ppNil_u, ppK_1, ppK2_1, ppK3_1, keysD_n, kdK_1, kdK2_1, ddK_1, ddK2_1, g2K_1, g2K1_1, g2K2_1, g2K3_1, g2K4_1, isDic_d, dpK_1, dpK1_1, dpK2_1, dpK3_1, dbK_1, dbK2_1, bdCopy_1, ddNew_u, dicS_r, dGet_u, dInK_u, valD_c, putD_c, iEnumD_u, ppCons_u, keysD_c, ddDisp_u, eGet2_u, sDput_u, ddCopy_u, List.map_cons, List.map_nil, List.length_cons, List.length_nil, List.cons_append, List.nil_append, List.append_nil, List.getElem?_cons_zero, List.getElem?_cons_succ, List.set_cons_zero, List.set_cons_succ, ofString_inj, ofString_beq, Pc.d, atI, ixN, becomes, becD]
    | shut b x c =>
      have e := law_put_D x g c k S (by simp only [bdc] at hb; omega)
      simp [bodies, varK_1, eVar_u, eC_u, aNil_u, acK1_1, acK2_1, aCons_u, tupK_1, eTup_u, ldK_1, lDisp_u, eLK_1, eLMK_1, eL_u, eLM_u, eDiK_1, eDMK_1, eDi_u, eDM_u, opK1_1, opK2_1, opK3_1, eOp_u, negK_1, eNeg_u, slK1_1, slK2_1, slK3_1, slK4_1, ptSK_1, ptN_u, ptS_u, eSlice_u, callK_1, eCall_u, biK_1, blK_1, blK2_1, eBi_u, lBi_u, isiK_1, isiK2_1, eIsi_u, revK_1, revK2_1, lRev_u, andEK_1, andEK_2, orEK_1, orEK_2, notEK_1, orSK_1, ifEK_1, ifEK_2, tofK_1, eAnd_u, eOr_u, eNot_u, eOrS_u, eIf_u, tOf_u, chK1_1, chK2_1, chK3_1, chK3_2, eChain_u, tandK_1, tandK_2, torK_1, torK_2, tnotK_1, tTrue_u, tfAnd_u, tfOr_u, tfNot_u, lcK1_1, lcK2_1, lcK3_1, lcK3_2, lcK4_1, lcK5_1, lcD_n, lcD_c, aLc_u, wipeD_n, wipeD_c, gdName_u, gsK_1, gsNil_u, gdTup_u, gsCons_u, iseqK_1, iseqK2_1, itupK_1, istrK_1, irng1K_1, irng2K_1, seqP_1, seqP_2, iSeq_u, iTupD_u, iStrD_u, iRange1_u, iRange2_u, m1K_1, m1K2_1, m0K_1, s1K_1, eMeth1_u, eMeth0_u, eS1_u, setK_1, asgK_1, asgK2_1, retK_1, expK_1, seqK_1, seqK_2, seqK_3, ifK_1, ifK_2, forK_1, forD_n, forK2_1, forK3_1, forK3_2, forK3_3, fnK_1, fnK_2, gcK_1, sNext_u, sBrk_u, stK_1, stK0_1, stK1_1, stK2_1, sSet_u, sAsg_u, sRet_u, sExp_u, sSeq_u, sIf_u, sFor_u, forD_c, fnD_u, gcFn_u, sSetIx_u, dAdd_i, dAdd_s, dAdd_t, dAdd_l, dSub_i, dCmp_i, dEq_s, dEq_i, dEq_b, dNe_s, dNe_i, dNe_b, dIx_t, dIx_l, dIx_c, dSlice_t, dSlice_l, dSlice_c, dSlice_s, bLen_t, bLen_l, bLen_s, bTup_t, bTup_l, blList_t, blList_l, bInt_i, bInt_t, bInt_f, bMin_i, dIsN_1, dIsN_2, seqL_l, seqL_c, dMod_i, dDiv_i, dMul_r, dMul_l, bLen_c, gc_same, pow12, dicS_d, dicO_1, keyO_s, keyO_i, dgK_1, dgK2_1, diK_1, diK2_f, diK2_t, valD_n, mergeD_n, mergeD_c, putD_n, ienK_1, ppNil_u, ppK_1, ppK2_1, ppK3_1, keysD_n, kdK_1, kdK2_1, ddK_1, ddK2_1, g2K_1, g2K1_1, g2K2_1, g2K3_1, g2K4_1, isDic_d, dpK_1, dpK1_1, dpK2_1, dpK3_1, dbK_1, dbK2_1, bdCopy_1, ddNew_u, dicS_r, dGet_u, dInK_u, valD_c, putD_c, iEnumD_u, ppCons_u, keysD_c, ddDisp_u, eGet2_u, sDput_u, ddCopy_u, List.map_cons, List.map_nil, List.length_cons, List.length_nil, List.cons_append, List.nil_append, List.append_nil, List.getElem?_cons_zero, List.getElem?_cons_succ, List.set_cons_zero, List.set_cons_succ, ofString_inj, ofString_beq, Pc.d, atI, ixN, becomes, becD, e]
    | kept b fs =>
      have e := in_frames_D (k := k) (by omega) fs g S
      simp [bodies, varK_1, eVar_u, eC_u, aNil_u, acK1_1, acK2_1, aCons_u, tupK_1, eTup_u, ldK_1, lDisp_u, eLK_1, eLMK_1, eL_u, eLM_u, eDiK_1, eDMK_1, eDi_u, eDM_u, opK1_1, opK2_1, opK3_1, eOp_u, negK_1, eNeg_u, slK1_1, slK2_1, slK3_1, slK4_1, ptSK_1, ptN_u, ptS_u, eSlice_u, callK_1, eCall_u, biK_1, blK_1, blK2_1, eBi_u, lBi_u, isiK_1, isiK2_1, eIsi_u, revK_1, revK2_1, lRev_u, andEK_1, andEK_2, orEK_1, orEK_2, notEK_1, orSK_1, ifEK_1, ifEK_2, tofK_1, eAnd_u, eOr_u, eNot_u, eOrS_u, eIf_u, tOf_u, chK1_1, chK2_1, chK3_1, chK3_2, eChain_u, tandK_1, tandK_2, torK_1, torK_2, tnotK_1, tTrue_u, tfAnd_u, tfOr_u, tfNot_u, lcK1_1, lcK2_1, lcK3_1, lcK3_2, lcK4_1, lcK5_1, lcD_n, lcD_c, aLc_u, wipeD_n, wipeD_c, gdName_u, gsK_1, gsNil_u, gdTup_u, gsCons_u, iseqK_1, iseqK2_1, itupK_1, istrK_1, irng1K_1, irng2K_1, seqP_1, seqP_2, iSeq_u, iTupD_u, iStrD_u, iRange1_u, iRange2_u, m1K_1, m1K2_1, m0K_1, s1K_1, eMeth1_u, eMeth0_u, eS1_u, setK_1, asgK_1, asgK2_1, retK_1, expK_1, seqK_1, seqK_2, seqK_3, ifK_1, ifK_2, forK_1, forD_n, forK2_1, forK3_1, forK3_2, forK3_3, fnK_1, fnK_2, gcK_1, sNext_u, sBrk_u, stK_1, stK0_1, stK1_1, stK2_1, sSet_u, sAsg_u, sRet_u, sExp_u, sSeq_u, sIf_u, sFor_u, forD_c, fnD_u, gcFn_u, sSetIx_u, dAdd_i, dAdd_s, dAdd_t, dAdd_l, dSub_i, dCmp_i, dEq_s, dEq_i, dEq_b, dNe_s, dNe_i, dNe_b, dIx_t, dIx_l, dIx_c, dSlice_t, dSlice_l, dSlice_c, dSlice_s, bLen_t, bLen_l, bLen_s, bTup_t, bTup_l, blList_t, blList_l, bInt_i, bInt_t, bInt_f, bMin_i, dIsN_1, dIsN_2, seqL_l, seqL_c, dMod_i, dDiv_i, dMul_r, dMul_l, bLen_c, gc_same, pow12, dicS_d, dicO_1, keyO_s, keyO_i, dgK_1, dgK2_1, diK_1, diK2_f, diK2_t, valD_n, mergeD_n, mergeD_c, putD_n, ienK_1, ppNil_u, ppK_1, ppK2_1, ppK3_1, keysD_n, kdK_1, kdK2_1, ddK_1, ddK2_1, g2K_1, g2K1_1, g2K2_1, g2K3_1, g2K4_1, isDic_d, dpK_1, dpK1_1, dpK2_1, dpK3_1, dbK_1, dbK2_1, bdCopy_1, ddNew_u, dicS_r, dGet_u, dInK_u, valD_c, putD_c, iEnumD_u, ppCons_u, keysD_c, ddDisp_u, eGet2_u, sDput_u, ddCopy_u, List.map_cons, List.map_nil, List.length_cons, List.length_nil, List.cons_append, List.nil_append, List.append_nil, List.getElem?_cons_zero, List.getElem?_cons_succ, List.set_cons_zero, List.set_cons_succ, ofString_inj, ofString_beq, Pc.d, atI, ixN, becomes, becD, e]
    | _ => simp [Pc.isV] at hf
  | plus a f g =>
    have hf : f.isV = true ∧ g.isV = true := by
      cases q : f.isV <;> cases q' : g.isV <;> simp [inn, q, q'] at hi ⊢
    obtain ⟨hf, hg⟩ := hf
    cases f with
    | num m =>
      cases g with
      | num n => simp [bodies, varK_1, eVar_u, eC_u, aNil_u, acK1_1, acK2_1, aCons_u, tupK_1, eTup_u, ldK_1, lDisp_u, eLK_1, eLMK_1, eL_u, eLM_u, eDiK_1, eDMK_1, eDi_u, eDM_u, opK1_1, opK2_1, opK3_1, eOp_u, negK_1, eNeg_u, slK1_1, slK2_1, slK3_1, slK4_1, ptSK_1, ptN_u, ptS_u, eSlice_u, callK_1, eCall_u, biK_1, blK_1, blK2_1, eBi_u, lBi_u, isiK_1, isiK2_1, eIsi_u, revK_1, revK2_1, lRev_u, andEK_1, andEK_2, orEK_1, orEK_2, notEK_1, orSK_1, ifEK_1, ifEK_2, tofK_1, eAnd_u, eOr_u, eNot_u, eOrS_u, eIf_u, tOf_u, chK1_1, chK2_1, chK3_1, chK3_2, eChain_u, tandK_1, tandK_2, torK_1, torK_2, tnotK_1, tTrue_u, tfAnd_u, tfOr_u, tfNot_u, lcK1_1, lcK2_1, lcK3_1, lcK3_2, lcK4_1, lcK5_1, lcD_n, lcD_c, aLc_u, wipeD_n, wipeD_c, gdName_u, gsK_1, gsNil_u, gdTup_u, gsCons_u, iseqK_1, iseqK2_1, itupK_1, istrK_1, irng1K_1, irng2K_1, seqP_1, seqP_2, iSeq_u, iTupD_u, iStrD_u, iRange1_u, iRange2_u, m1K_1, m1K2_1, m0K_1, s1K_1, eMeth1_u, eMeth0_u, eS1_u, setK_1, asgK_1, asgK2_1, retK_1, expK_1, seqK_1, seqK_2, seqK_3, ifK_1, ifK_2, forK_1, forD_n, forK2_1, forK3_1, forK3_2, forK3_3, fnK_1, fnK_2, gcK_1, sNext_u, sBrk_u, stK_1, stK0_1, stK1_1, stK2_1, sSet_u, sAsg_u, sRet_u, sExp_u, sSeq_u, sIf_u, sFor_u, forD_c, fnD_u, gcFn_u, sSetIx_u, dAdd_i, dAdd_s, dAdd_t, dAdd_l, dSub_i, dCmp_i, dEq_s, dEq_i, dEq_b, dNe_s, dNe_i, dNe_b, dIx_t, dIx_l, dIx_c, dSlice_t, dSlice_l, dSlice_c, dSlice_s, bLen_t, bLen_l, bLen_s, bTup_t, bTup_l, blList_t, blList_l, bInt_i, bInt_t, bInt_f, bMin_i, dIsN_1, dIsN_2, seqL_l, seqL_c, dMod_i, dDiv_i, dMul_r, dMul_l, bLen_c, gc_same, pow12, dicS_d, dicO_1, keyO_s, keyO_i, dgK_1, dgK2_1, diK_1, diK2_f, diK2_t, valD_n, mergeD_n, mergeD_c, putD_n, ienK_1, ppNil_u, ppK_1, ppK2_1, ppK3_1, keysD_n, kdK_1, kdK2_1, ddK_1, ddK2_1, g2K_1, g2K1_1, g2K2_1, g2K3_1, g2K4_1, isDic_d, dpK_1, dpK1_1, dpK2_1, dpK3_1, dbK_1, dbK2_1, bdCopy_1, ddNew_u, dicS_r, dGet_u, dInK_u, valD_c, putD_c, iEnumD_u, ppCons_u, keysD_c, ddDisp_u, eGet2_u, sDput_u, ddCopy_u, List.map_cons, List.map_nil, List.length_cons, List.length_nil, List.cons_append, List.nil_append, List.append_nil, List.getElem?_cons_zero, List.getElem?_cons_succ, List.set_cons_zero, List.set_cons_succ, ofString_inj, ofString_beq, Pc.d, atI, ixN, becomes, becD]
      | shut b x c => simp [bodies, varK_1, eVar_u, eC_u, aNil_u, acK1_1, acK2_1, aCons_u, tupK_1, eTup_u, ldK_1, lDisp_u, eLK_1, eLMK_1, eL_u, eLM_u, eDiK_1, eDMK_1, eDi_u, eDM_u, opK1_1, opK2_1, opK3_1, eOp_u, negK_1, eNeg_u, slK1_1, slK2_1, slK3_1, slK4_1, ptSK_1, ptN_u, ptS_u, eSlice_u, callK_1, eCall_u, biK_1, blK_1, blK2_1, eBi_u, lBi_u, isiK_1, isiK2_1, eIsi_u, revK_1, revK2_1, lRev_u, andEK_1, andEK_2, orEK_1, orEK_2, notEK_1, orSK_1, ifEK_1, ifEK_2, tofK_1, eAnd_u, eOr_u, eNot_u, eOrS_u, eIf_u, tOf_u, chK1_1, chK2_1, chK3_1, chK3_2, eChain_u, tandK_1, tandK_2, torK_1, torK_2, tnotK_1, tTrue_u, tfAnd_u, tfOr_u, tfNot_u, lcK1_1, lcK2_1, lcK3_1, lcK3_2, lcK4_1, lcK5_1, lcD_n, lcD_c, aLc_u, wipeD_n, wipeD_c, gdName_u, gsK_1, gsNil_u, gdTup_u, gsCons_u, iseqK_1, iseqK2_1, itupK_1, istrK_1, irng1K_1, irng2K_1, seqP_1, seqP_2, iSeq_u, iTupD_u, iStrD_u, iRange1_u, iRange2_u, m1K_1, m1K2_1, m0K_1, s1K_1, eMeth1_u, eMeth0_u, eS1_u, setK_1, asgK_1, asgK2_1, retK_1, expK_1, seqK_1, seqK_2, seqK_3, ifK_1, ifK_2, forK_1, forD_n, forK2_1, forK3_1, forK3_2, forK3_3, fnK_1, fnK_2, gcK_1, sNext_u, sBrk_u, stK_1, stK0_1, stK1_1, stK2_1, sSet_u, sAsg_u, sRet_u, sExp_u, sSeq_u, sIf_u, sFor_u, forD_c, fnD_u, gcFn_u, sSetIx_u, dAdd_i, dAdd_s, dAdd_t, dAdd_l, dSub_i, dCmp_i, dEq_s, dEq_i, dEq_b, dNe_s, dNe_i, dNe_b, dIx_t, dIx_l, dIx_c, dSlice_t, dSlice_l, dSlice_c, dSlice_s, bLen_t, bLen_l, bLen_s, bTup_t, bTup_l, blList_t, blList_l, bInt_i, bInt_t, bInt_f, bMin_i, dIsN_1, dIsN_2, seqL_l, seqL_c, dMod_i, dDiv_i, dMul_r, dMul_l, bLen_c, gc_same, pow12, dicS_d, dicO_1, keyO_s, keyO_i, dgK_1, dgK2_1, diK_1, diK2_f, diK2_t, valD_n, mergeD_n, mergeD_c, putD_n, ienK_1, ppNil_u, ppK_1, ppK2_1, ppK3_1, keysD_n, kdK_1, kdK2_1, ddK_1, ddK2_1, g2K_1, g2K1_1, g2K2_1, g2K3_1, g2K4_1, isDic_d, dpK_1, dpK1_1, dpK2_1, dpK3_1, dbK_1, dbK2_1, bdCopy_1, ddNew_u, dicS_r, dGet_u, dInK_u, valD_c, putD_c, iEnumD_u, ppCons_u, keysD_c, ddDisp_u, eGet2_u, sDput_u, ddCopy_u, List.map_cons, List.map_nil, List.length_cons, List.length_nil, List.cons_append, List.nil_append, List.append_nil, List.getElem?_cons_zero, List.getElem?_cons_succ, List.set_cons_zero, List.set_cons_succ, ofString_inj, ofString_beq, Pc.d, atI, ixN, becomes, becD]
      | kept b fs => simp [bodies, varK_1, eVar_u, eC_u, aNil_u, acK1_1, acK2_1, aCons_u, tupK_1, eTup_u, ldK_1, lDisp_u, eLK_1, eLMK_1, eL_u, eLM_u, eDiK_1, eDMK_1, eDi_u, eDM_u, opK1_1, opK2_1, opK3_1, eOp_u, negK_1, eNeg_u, slK1_1, slK2_1, slK3_1, slK4_1, ptSK_1, ptN_u, ptS_u, eSlice_u, callK_1, eCall_u, biK_1, blK_1, blK2_1, eBi_u, lBi_u, isiK_1, isiK2_1, eIsi_u, revK_1, revK2_1, lRev_u, andEK_1, andEK_2, orEK_1, orEK_2, notEK_1, orSK_1, ifEK_1, ifEK_2, tofK_1, eAnd_u, eOr_u, eNot_u, eOrS_u, eIf_u, tOf_u, chK1_1, chK2_1, chK3_1, chK3_2, eChain_u, tandK_1, tandK_2, torK_1, torK_2, tnotK_1, tTrue_u, tfAnd_u, tfOr_u, tfNot_u, lcK1_1, lcK2_1, lcK3_1, lcK3_2, lcK4_1, lcK5_1, lcD_n, lcD_c, aLc_u, wipeD_n, wipeD_c, gdName_u, gsK_1, gsNil_u, gdTup_u, gsCons_u, iseqK_1, iseqK2_1, itupK_1, istrK_1, irng1K_1, irng2K_1, seqP_1, seqP_2, iSeq_u, iTupD_u, iStrD_u, iRange1_u, iRange2_u, m1K_1, m1K2_1, m0K_1, s1K_1, eMeth1_u, eMeth0_u, eS1_u, setK_1, asgK_1, asgK2_1, retK_1, expK_1, seqK_1, seqK_2, seqK_3, ifK_1, ifK_2, forK_1, forD_n, forK2_1, forK3_1, forK3_2, forK3_3, fnK_1, fnK_2, gcK_1, sNext_u, sBrk_u, stK_1, stK0_1, stK1_1, stK2_1, sSet_u, sAsg_u, sRet_u, sExp_u, sSeq_u, sIf_u, sFor_u, forD_c, fnD_u, gcFn_u, sSetIx_u, dAdd_i, dAdd_s, dAdd_t, dAdd_l, dSub_i, dCmp_i, dEq_s, dEq_i, dEq_b, dNe_s, dNe_i, dNe_b, dIx_t, dIx_l, dIx_c, dSlice_t, dSlice_l, dSlice_c, dSlice_s, bLen_t, bLen_l, bLen_s, bTup_t, bTup_l, blList_t, blList_l, bInt_i, bInt_t, bInt_f, bMin_i, dIsN_1, dIsN_2, seqL_l, seqL_c, dMod_i, dDiv_i, dMul_r, dMul_l, bLen_c, gc_same, pow12, dicS_d, dicO_1, keyO_s, keyO_i, dgK_1, dgK2_1, diK_1, diK2_f, diK2_t, valD_n, mergeD_n, mergeD_c, putD_n, ienK_1, ppNil_u, ppK_1, ppK2_1, ppK3_1, keysD_n, kdK_1, kdK2_1, ddK_1, ddK2_1, g2K_1, g2K1_1, g2K2_1, g2K3_1, g2K4_1, isDic_d, dpK_1, dpK1_1, dpK2_1, dpK3_1, dbK_1, dbK2_1, bdCopy_1, ddNew_u, dicS_r, dGet_u, dInK_u, valD_c, putD_c, iEnumD_u, ppCons_u, keysD_c, ddDisp_u, eGet2_u, sDput_u, ddCopy_u, List.map_cons, List.map_nil, List.length_cons, List.length_nil, List.cons_append, List.nil_append, List.append_nil, List.getElem?_cons_zero, List.getElem?_cons_succ, List.set_cons_zero, List.set_cons_succ, ofString_inj, ofString_beq, Pc.d, atI, ixN, becomes, becD]
      | _ => simp [Pc.isV] at hg
    | shut b x c => simp [bodies, varK_1, eVar_u, eC_u, aNil_u, acK1_1, acK2_1, aCons_u, tupK_1, eTup_u, ldK_1, lDisp_u, eLK_1, eLMK_1, eL_u, eLM_u, eDiK_1, eDMK_1, eDi_u, eDM_u, opK1_1, opK2_1, opK3_1, eOp_u, negK_1, eNeg_u, slK1_1, slK2_1, slK3_1, slK4_1, ptSK_1, ptN_u, ptS_u, eSlice_u, callK_1, eCall_u, biK_1, blK_1, blK2_1, eBi_u, lBi_u, isiK_1, isiK2_1, eIsi_u, revK_1, revK2_1, lRev_u, andEK_1, andEK_2, orEK_1, orEK_2, notEK_1, orSK_1, ifEK_1, ifEK_2, tofK_1, eAnd_u, eOr_u, eNot_u, eOrS_u, eIf_u, tOf_u, chK1_1, chK2_1, chK3_1, chK3_2, eChain_u, tandK_1, tandK_2, torK_1, torK_2, tnotK_1, tTrue_u, tfAnd_u, tfOr_u, tfNot_u, lcK1_1, lcK2_1, lcK3_1, lcK3_2, lcK4_1, lcK5_1, lcD_n, lcD_c, aLc_u, wipeD_n, wipeD_c, gdName_u, gsK_1, gsNil_u, gdTup_u, gsCons_u, iseqK_1, iseqK2_1, itupK_1, istrK_1, irng1K_1, irng2K_1, seqP_1, seqP_2, iSeq_u, iTupD_u, iStrD_u, iRange1_u, iRange2_u, m1K_1, m1K2_1, m0K_1, s1K_1, eMeth1_u, eMeth0_u, eS1_u, setK_1, asgK_1, asgK2_1, retK_1, expK_1, seqK_1, seqK_2, seqK_3, ifK_1, ifK_2, forK_1, forD_n, forK2_1, forK3_1, forK3_2, forK3_3, fnK_1, fnK_2, gcK_1, sNext_u, sBrk_u, stK_1, stK0_1, stK1_1, stK2_1, sSet_u, sAsg_u, sRet_u, sExp_u, sSeq_u, sIf_u, sFor_u, forD_c, fnD_u, gcFn_u, sSetIx_u, dAdd_i, dAdd_s, dAdd_t, dAdd_l, dSub_i, dCmp_i, dEq_s, dEq_i, dEq_b, dNe_s, dNe_i, dNe_b, dIx_t, dIx_l, dIx_c, dSlice_t, dSlice_l, dSlice_c, dSlice_s, bLen_t, bLen_l, bLen_s, bTup_t, bTup_l, blList_t, blList_l, bInt_i, bInt_t, bInt_f, bMin_i, dIsN_1, dIsN_2, seqL_l, seqL_c, dMod_i, dDiv_i, dMul_r, dMul_l, bLen_c, gc_same, pow12, dicS_d, dicO_1, keyO_s, keyO_i, dgK_1, dgK2_1, diK_1, diK2_f, diK2_t, valD_n, mergeD_n, mergeD_c, putD_n, ienK_1, ppNil_u, ppK_1, ppK2_1, ppK3_1, keysD_n, kdK_1, kdK2_1, ddK_1, ddK2_1, g2K_1, g2K1_1, g2K2_1, g2K3_1, g2K4_1, isDic_d, dpK_1, dpK1_1, dpK2_1, dpK3_1, dbK_1, dbK2_1, bdCopy_1, ddNew_u, dicS_r, dGet_u, dInK_u, valD_c, putD_c, iEnumD_u, ppCons_u, keysD_c, ddDisp_u, eGet2_u, sDput_u, ddCopy_u, List.map_cons, List.map_nil, List.length_cons, List.length_nil, List.cons_append, List.nil_append, List.append_nil, List.getElem?_cons_zero, List.getElem?_cons_succ, List.set_cons_zero, List.set_cons_succ, ofString_inj, ofString_beq, Pc.d, atI, ixN, becomes, becD]
    | kept b fs => simp [bodies, varK_1, eVar_u, eC_u, aNil_u, acK1_1, acK2_1, aCons_u, tupK_1, eTup_u, ldK_1, lDisp_u, eLK_1, eLMK_1, eL_u, eLM_u, eDiK_1, eDMK_1, eDi_u, eDM_u, opK1_1, opK2_1, opK3_1, eOp_u, negK_1, eNeg_u, slK1_1, slK2_1, slK3_1, slK4_1, ptSK_1, ptN_u, ptS_u, eSlice_u, callK_1, eCall_u, biK_1, blK_1, blK2_1, eBi_u, lBi_u, isiK_1, isiK2_1, eIsi_u, revK_1, revK2_1, lRev_u, andEK_1, andEK_2, orEK_1, orEK_2, notEK_1, orSK_1, ifEK_1, ifEK_2, tofK_1, eAnd_u, eOr_u, eNot_u, eOrS_u, eIf_u, tOf_u, chK1_1, chK2_1, chK3_1, chK3_2, eChain_u, tandK_1, tandK_2, torK_1, torK_2, tnotK_1, tTrue_u, tfAnd_u, tfOr_u, tfNot_u, lcK1_1, lcK2_1, lcK3_1, lcK3_2, lcK4_1, lcK5_1, lcD_n, lcD_c, aLc_u, wipeD_n, wipeD_c, gdName_u, gsK_1, gsNil_u, gdTup_u, gsCons_u, iseqK_1, iseqK2_1, itupK_1, istrK_1, irng1K_1, irng2K_1, seqP_1, seqP_2, iSeq_u, iTupD_u, iStrD_u, iRange1_u, iRange2_u, m1K_1, m1K2_1, m0K_1, s1K_1, eMeth1_u, eMeth0_u, eS1_u, setK_1, asgK_1, asgK2_1, retK_1, expK_1, seqK_1, seqK_2, seqK_3, ifK_1, ifK_2, forK_1, forD_n, forK2_1, forK3_1, forK3_2, forK3_3, fnK_1, fnK_2, gcK_1, sNext_u, sBrk_u, stK_1, stK0_1, stK1_1, stK2_1, sSet_u, sAsg_u, sRet_u, sExp_u, sSeq_u, sIf_u, sFor_u, forD_c, fnD_u, gcFn_u, sSetIx_u, dAdd_i, dAdd_s, dAdd_t, dAdd_l, dSub_i, dCmp_i, dEq_s, dEq_i, dEq_b, dNe_s, dNe_i, dNe_b, dIx_t, dIx_l, dIx_c, dSlice_t, dSlice_l, dSlice_c, dSlice_s, bLen_t, bLen_l, bLen_s, bTup_t, bTup_l, blList_t, blList_l, bInt_i, bInt_t, bInt_f, bMin_i, dIsN_1, dIsN_2, seqL_l, seqL_c, dMod_i, dDiv_i, dMul_r, dMul_l, bLen_c, gc_same, pow12, dicS_d, dicO_1, keyO_s, keyO_i, dgK_1, dgK2_1, diK_1, diK2_f, diK2_t, valD_n, mergeD_n, mergeD_c, putD_n, ienK_1, ppNil_u, ppK_1, ppK2_1, ppK3_1, keysD_n, kdK_1, kdK2_1, ddK_1, ddK2_1, g2K_1, g2K1_1, g2K2_1, g2K3_1, g2K4_1, isDic_d, dpK_1, dpK1_1, dpK2_1, dpK3_1, dbK_1, dbK2_1, bdCopy_1, ddNew_u, dicS_r, dGet_u, dInK_u, valD_c, putD_c, iEnumD_u, ppCons_u, keysD_c, ddDisp_u, eGet2_u, sDput_u, ddCopy_u, List.map_cons, List.map_nil, List.length_cons, List.length_nil, List.cons_append, List.nil_append, List.append_nil, List.getElem?_cons_zero, List.getElem?_cons_succ, List.set_cons_zero, List.set_cons_succ, ofString_inj, ofString_beq, Pc.d, atI, ixN, becomes, becD]
    | _ => simp [Pc.isV] at hf
  | pick a c f g =>
    have hc : c.isV = true := by
      cases q : c.isV with
      | true => rfl
      | false => simp [inn, q] at hi
    cases c with
    | num m => by_cases z : m = 0 <;> simp [bodies, varK_1, eVar_u, eC_u, aNil_u, acK1_1, acK2_1, aCons_u, tupK_1, eTup_u, ldK_1, lDisp_u, eLK_1, eLMK_1, eL_u, eLM_u, eDiK_1, eDMK_1, eDi_u, eDM_u, opK1_1, opK2_1, opK3_1, eOp_u, negK_1, eNeg_u, slK1_1, slK2_1, slK3_1, slK4_1, ptSK_1, ptN_u, ptS_u, eSlice_u, callK_1, eCall_u, biK_1, blK_1, blK2_1, eBi_u, lBi_u, isiK_1, isiK2_1, eIsi_u, revK_1, revK2_1, lRev_u, andEK_1, andEK_2, orEK_1, orEK_2, notEK_1, orSK_1, ifEK_1, ifEK_2, tofK_1, eAnd_u, eOr_u, eNot_u, eOrS_u, eIf_u, tOf_u, chK1_1, chK2_1, chK3_1, chK3_2, eChain_u, tandK_1, tandK_2, torK_1, torK_2, tnotK_1, tTrue_u, tfAnd_u, tfOr_u, tfNot_u, lcK1_1, lcK2_1, lcK3_1, lcK3_2, lcK4_1, lcK5_1, lcD_n, lcD_c, aLc_u, wipeD_n, wipeD_c, gdName_u, gsK_1, gsNil_u, gdTup_u, gsCons_u, iseqK_1, iseqK2_1, itupK_1, istrK_1, irng1K_1, irng2K_1, seqP_1, seqP_2, iSeq_u, iTupD_u, iStrD_u, iRange1_u, iRange2_u, m1K_1, m1K2_1, m0K_1, s1K_1, eMeth1_u, eMeth0_u, eS1_u, setK_1, asgK_1, asgK2_1, retK_1, expK_1, seqK_1, seqK_2, seqK_3, ifK_1, ifK_2, forK_1, forD_n, forK2_1, forK3_1, forK3_2, forK3_3, fnK_1, fnK_2, gcK_1, sNext_u, sBrk_u, stK_1, stK0_1, stK1_1, stK2_1, sSet_u, sAsg_u, sRet_u, sExp_u, sSeq_u, sIf_u, sFor_u, forD_c, fnD_u, gcFn_u, sSetIx_u, dAdd_i, dAdd_s, dAdd_t, dAdd_l, dSub_i, dCmp_i, dEq_s, dEq_i, dEq_b, dNe_s, dNe_i, dNe_b, dIx_t, dIx_l, dIx_c, dSlice_t, dSlice_l, dSlice_c, dSlice_s, bLen_t, bLen_l, bLen_s, bTup_t, bTup_l, blList_t, blList_l, bInt_i, bInt_t, bInt_f, bMin_i, dIsN_1, dIsN_2, seqL_l, seqL_c, dMod_i, dDiv_i, dMul_r, dMul_l, bLen_c, gc_same, pow12, dicS_d, dicO_1, keyO_s, keyO_i, dgK_1, dgK2_1, diK_1, diK2_f, diK2_t, valD_n, mergeD_n, mergeD_c, putD_n, ienK_1, ppNil_u, ppK_1, ppK2_1, ppK3_1, keysD_n, kdK_1, kdK2_1, ddK_1, ddK2_1, g2K_1, g2K1_1, g2K2_1, g2K3_1, g2K4_1, isDic_d, dpK_1, dpK1_1, dpK2_1, dpK3_1, dbK_1, dbK2_1, bdCopy_1, ddNew_u, dicS_r, dGet_u, dInK_u, valD_c, putD_c, iEnumD_u, ppCons_u, keysD_c, ddDisp_u, eGet2_u, sDput_u, ddCopy_u, List.map_cons, List.map_nil, List.length_cons, List.length_nil, List.cons_append, List.nil_append, List.append_nil, List.getElem?_cons_zero, List.getElem?_cons_succ, List.set_cons_zero, List.set_cons_succ, ofString_inj, ofString_beq, Pc.d, atI, ixN, becomes, becD, z]
    | shut b x c => simp [bodies, varK_1, eVar_u, eC_u, aNil_u, acK1_1, acK2_1, aCons_u, tupK_1, eTup_u, ldK_1, lDisp_u, eLK_1, eLMK_1, eL_u, eLM_u, eDiK_1, eDMK_1, eDi_u, eDM_u, opK1_1, opK2_1, opK3_1, eOp_u, negK_1, eNeg_u, slK1_1, slK2_1, slK3_1, slK4_1, ptSK_1, ptN_u, ptS_u, eSlice_u, callK_1, eCall_u, biK_1, blK_1, blK2_1, eBi_u, lBi_u, isiK_1, isiK2_1, eIsi_u, revK_1, revK2_1, lRev_u, andEK_1, andEK_2, orEK_1, orEK_2, notEK_1, orSK_1, ifEK_1, ifEK_2, tofK_1, eAnd_u, eOr_u, eNot_u, eOrS_u, eIf_u, tOf_u, chK1_1, chK2_1, chK3_1, chK3_2, eChain_u, tandK_1, tandK_2, torK_1, torK_2, tnotK_1, tTrue_u, tfAnd_u, tfOr_u, tfNot_u, lcK1_1, lcK2_1, lcK3_1, lcK3_2, lcK4_1, lcK5_1, lcD_n, lcD_c, aLc_u, wipeD_n, wipeD_c, gdName_u, gsK_1, gsNil_u, gdTup_u, gsCons_u, iseqK_1, iseqK2_1, itupK_1, istrK_1, irng1K_1, irng2K_1, seqP_1, seqP_2, iSeq_u, iTupD_u, iStrD_u, iRange1_u, iRange2_u, m1K_1, m1K2_1, m0K_1, s1K_1, eMeth1_u, eMeth0_u, eS1_u, setK_1, asgK_1, asgK2_1, retK_1, expK_1, seqK_1, seqK_2, seqK_3, ifK_1, ifK_2, forK_1, forD_n, forK2_1, forK3_1, forK3_2, forK3_3, fnK_1, fnK_2, gcK_1, sNext_u, sBrk_u, stK_1, stK0_1, stK1_1, stK2_1, sSet_u, sAsg_u, sRet_u, sExp_u, sSeq_u, sIf_u, sFor_u, forD_c, fnD_u, gcFn_u, sSetIx_u, dAdd_i, dAdd_s, dAdd_t, dAdd_l, dSub_i, dCmp_i, dEq_s, dEq_i, dEq_b, dNe_s, dNe_i, dNe_b, dIx_t, dIx_l, dIx_c, dSlice_t, dSlice_l, dSlice_c, dSlice_s, bLen_t, bLen_l, bLen_s, bTup_t, bTup_l, blList_t, blList_l, bInt_i, bInt_t, bInt_f, bMin_i, dIsN_1, dIsN_2, seqL_l, seqL_c, dMod_i, dDiv_i, dMul_r, dMul_l, bLen_c, gc_same, pow12, dicS_d, dicO_1, keyO_s, keyO_i, dgK_1, dgK2_1, diK_1, diK2_f, diK2_t, valD_n, mergeD_n, mergeD_c, putD_n, ienK_1, ppNil_u, ppK_1, ppK2_1, ppK3_1, keysD_n, kdK_1, kdK2_1, ddK_1, ddK2_1, g2K_1, g2K1_1, g2K2_1, g2K3_1, g2K4_1, isDic_d, dpK_1, dpK1_1, dpK2_1, dpK3_1, dbK_1, dbK2_1, bdCopy_1, ddNew_u, dicS_r, dGet_u, dInK_u, valD_c, putD_c, iEnumD_u, ppCons_u, keysD_c, ddDisp_u, eGet2_u, sDput_u, ddCopy_u, List.map_cons, List.map_nil, List.length_cons, List.length_nil, List.cons_append, List.nil_append, List.append_nil, List.getElem?_cons_zero, List.getElem?_cons_succ, List.set_cons_zero, List.set_cons_succ, ofString_inj, ofString_beq, Pc.d, atI, ixN, becomes, becD]
    | kept b fs => simp [bodies, varK_1, eVar_u, eC_u, aNil_u, acK1_1, acK2_1, aCons_u, tupK_1, eTup_u, ldK_1, lDisp_u, eLK_1, eLMK_1, eL_u, eLM_u, eDiK_1, eDMK_1, eDi_u, eDM_u, opK1_1, opK2_1, opK3_1, eOp_u, negK_1, eNeg_u, slK1_1, slK2_1, slK3_1, slK4_1, ptSK_1, ptN_u, ptS_u, eSlice_u, callK_1, eCall_u, biK_1, blK_1, blK2_1, eBi_u, lBi_u, isiK_1, isiK2_1, eIsi_u, revK_1, revK2_1, lRev_u, andEK_1, andEK_2, orEK_1, orEK_2, notEK_1, orSK_1, ifEK_1, ifEK_2, tofK_1, eAnd_u, eOr_u, eNot_u, eOrS_u, eIf_u, tOf_u, chK1_1, chK2_1, chK3_1, chK3_2, eChain_u, tandK_1, tandK_2, torK_1, torK_2, tnotK_1, tTrue_u, tfAnd_u, tfOr_u, tfNot_u, lcK1_1, lcK2_1, lcK3_1, lcK3_2, lcK4_1, lcK5_1, lcD_n, lcD_c, aLc_u, wipeD_n, wipeD_c, gdName_u, gsK_1, gsNil_u, gdTup_u, gsCons_u, iseqK_1, iseqK2_1, itupK_1, istrK_1, irng1K_1, irng2K_1, seqP_1, seqP_2, iSeq_u, iTupD_u, iStrD_u, iRange1_u, iRange2_u, m1K_1, m1K2_1, m0K_1, s1K_1, eMeth1_u, eMeth0_u, eS1_u, setK_1, asgK_1, asgK2_1, retK_1, expK_1, seqK_1, seqK_2, seqK_3, ifK_1, ifK_2, forK_1, forD_n, forK2_1, forK3_1, forK3_2, forK3_3, fnK_1, fnK_2, gcK_1, sNext_u, sBrk_u, stK_1, stK0_1, stK1_1, stK2_1, sSet_u, sAsg_u, sRet_u, sExp_u, sSeq_u, sIf_u, sFor_u, forD_c, fnD_u, gcFn_u, sSetIx_u, dAdd_i, dAdd_s, dAdd_t, dAdd_l, dSub_i, dCmp_i, dEq_s, dEq_i, dEq_b, dNe_s, dNe_i, dNe_b, dIx_t, dIx_l, dIx_c, dSlice_t, dSlice_l, dSlice_c, dSlice_s, bLen_t, bLen_l, bLen_s, bTup_t, bTup_l, blList_t, blList_l, bInt_i, bInt_t, bInt_f, bMin_i, dIsN_1, dIsN_2, seqL_l, seqL_c, dMod_i, dDiv_i, dMul_r, dMul_l, bLen_c, gc_same, pow12, dicS_d, dicO_1, keyO_s, keyO_i, dgK_1, dgK2_1, diK_1, diK2_f, diK2_t, valD_n, mergeD_n, mergeD_c, putD_n, ienK_1, ppNil_u, ppK_1, ppK2_1, ppK3_1, keysD_n, kdK_1, kdK2_1, ddK_1, ddK2_1, g2K_1, g2K1_1, g2K2_1, g2K3_1, g2K4_1, isDic_d, dpK_1, dpK1_1, dpK2_1, dpK3_1, dbK_1, dbK2_1, bdCopy_1, ddNew_u, dicS_r, dGet_u, dInK_u, valD_c, putD_c, iEnumD_u, ppCons_u, keysD_c, ddDisp_u, eGet2_u, sDput_u, ddCopy_u, List.map_cons, List.map_nil, List.length_cons, List.length_nil, List.cons_append, List.nil_append, List.append_nil, List.getElem?_cons_zero, List.getElem?_cons_succ, List.set_cons_zero, List.set_cons_succ, ofString_inj, ofString_beq, Pc.d, atI, ixN, becomes, becD]
    | _ => simp [Pc.isV] at hc
def isR (e : Pc × Nat) : Bool := match e.1 with | .rnd _ => true | _ => false
theorem isR_fr {e : Pc × Nat} (h : PrE e) : isR e = true ↔ frOf e = .rnd := by
  obtain ⟨⟨f, q, h1⟩, h2⟩ := h
  obtain ⟨p, i⟩ := e
  have h1 : inn p = some (f, q) := h1
  unfold frOf isR
  simp only [h1]
  cases p <;> simp only [inn] at h1 ⊢ <;> (try split at h1) <;> (try split at h1) <;> simp_all
  all_goals (obtain ⟨rfl, _⟩ := h1; simp)
def isRnd : Fr → Bool | .rnd => true | _ => false
theorem wd_ix (p : Pc) (S : List O) : dIx p.d (.int 0) S = some (.str (wd p)) := by cases p <;> simp [Pc.d, dIx_t, atI, ixN, wd]
theorem wd_rnd (e : Pc × Nat) : decide (wd e.1 = "round") = isR e := by
  obtain ⟨p, i⟩ := e
  cases p <;> simp [wd, isR, ofString_inj]
/-- the places of the rounds -/
def rounds (l : List (Pc × Nat)) : List D := ((List.range l.length).filter fun i => match l[i]? with | some e => isR e | none => false).map fun i => D.int (i : Nat)
theorem rounds_none {l : List (Pc × Nat)} (h : ∀ e ∈ l, isR e = false) : rounds l = [] := by
  unfold rounds
  rw [List.map_eq_nil_iff, List.filter_eq_nil_iff]
  intro i hi
  have hi := List.mem_range.mp hi
  rw [List.getElem?_eq_getElem hi]
  simp [h _ (List.getElem_mem hi)]
theorem rounds_last {l1 l2 : List (Pc × Nat)} {e : Pc × Nat} (he : isR e = true) (h : ∀ e ∈ l2, isR e = false) : ∃ r, rounds (l1 ++ e :: l2) = r ++ [.int (l1.length : Nat)] := by
  unfold rounds
  have hlen : (l1 ++ e :: l2).length = (l1.length + 1) + l2.length := by simp; omega
  rw [hlen, List.range_add, List.range_succ, List.filter_append, List.filter_append]
  have e1 : ([l1.length].filter fun i => match (l1 ++ e :: l2)[i]? with | some e => isR e | none => false) = [l1.length] := by
    simp [he]
  have e2 : (((List.range l2.length).map fun x => l1.length + 1 + x).filter fun i => match (l1 ++ e :: l2)[i]? with | some e => isR e | none => false) = [] := by
    rw [List.filter_eq_nil_iff]
    intro i hi
    obtain ⟨j, hj, rfl⟩ := List.mem_map.mp hi
    have hj := List.mem_range.mp hj
    rw [List.getElem?_append_right (by omega)]
    have : l1.length + 1 + j - l1.length = j + 1 := by omega
    rw [this, List.getElem?_cons_succ, List.getElem?_eq_getElem hj]
    simp [h _ (List.getElem_mem hj)]
  rw [e1, e2, List.append_nil, List.map_append]
  exact ⟨_, rfl⟩
theorem rounds_len (l : List (Pc × Nat)) : (rounds l).length ≤ l.length := by
  unfold rounds
  rw [List.length_map]
  exact Nat.le_trans (List.length_filter_le _ _) (by simp)
theorem dEq_nil (L : Nat) (S : List O) (l : List (Pc × Nat)) : dEq (L + 1) (.lst (rounds l)) (.lst []) S = some (.bl (rounds l).isEmpty) := by
  have h1 : ∀ r : List Nat, PyData.canLayAll0 (pyL (r.map fun i => D.int (i : Nat))) = true := by
    intro r
    induction r with
    | nil => simp [pyL, PyData.canLayAll0]
    | cons a r ih => simp [py, pyL, PyData.canLayAll0, PyData.canLay0, ih]
  unfold rounds
  generalize ((List.range l.length).filter fun i => match l[i]? with | some e => isR e | none => false) = r
  have h2 := h1 r
  have e : dEqv (L + 1) S (.lst (r.map fun i => D.int (i : Nat))) (.lst []) = if (PyData.list (pyL (r.map fun i => D.int (i : Nat)))).canLay0 = true ∧ (PyData.list (pyL [])).canLay0 = true ∧ min (PyData.list (pyL (r.map fun i => D.int (i : Nat)))).depth (PyData.list (pyL [])).depth ≤ L + 1 then some (PyData.eqv (.list (pyL (r.map fun i => D.int (i : Nat)))) (.list (pyL []))) else none := rfl
  unfold dEq
  rw [e, if_pos (by simp [PyData.canLay0, h2, pyL, PyData.canLayAll0, PyData.depth, PyData.depthAll])]
  cases r with
  | nil => simp [pyL, PyData.eqv, PyData.eqvAll]
  | cons a r => simp [pyL, PyData.eqv, PyData.eqvAll]
theorem at0 {α : Type} {a : α} {l : List α} : atI (a :: l) 0 = some a := atI_nat (j := 0) rfl
theorem at1 {α : Type} {a b : α} {l : List α} : atI (a :: b :: l) 1 = some b := atI_nat (j := 1) rfl
theorem at2 {α : Type} {a b c : α} {l : List α} : atI (a :: b :: c :: l) 2 = some c := atI_nat (j := 2) rfl
theorem at3 {α : Type} {a b c d : α} {l : List α} : atI (a :: b :: c :: d :: l) 3 = some d := atI_nat (j := 3) rfl
theorem at4 {α : Type} {a b c d e : α} {l : List α} : atI (a :: b :: c :: d :: e :: l) 4 = some e := atI_nat (j := 4) rfl
theorem lstep_D {k : Nat} (p : Pc) (S : List O) (ok : okS S) (hl : (frs p).length < 10000000) (nn : ∀ x, hd p ≠ .name x) (hb : bdc (hd p) + 6 ≤ k) : Fk k ._law_step [p.d] S = some ((step p).d p, S) := by
  obtain ⟨k, rfl⟩ : ∃ j, k = j + 1 := ⟨k - 1, by omega⟩
  rw [Fk_s]
  have ev := value_D (k := k) (by omega) p S
  cases hv : p.isV with
  | true =>
    rw [hv] at ev
    simp [bodies, varK_1, eVar_u, eC_u, aNil_u, acK1_1, acK2_1, aCons_u, tupK_1, eTup_u, ldK_1, lDisp_u, eLK_1, eLMK_1, eL_u, eLM_u, eDiK_1, eDMK_1, eDi_u, eDM_u, opK1_1, opK2_1, opK3_1, eOp_u, negK_1, eNeg_u, slK1_1, slK2_1, slK3_1, slK4_1, ptSK_1, ptN_u, ptS_u, eSlice_u, callK_1, eCall_u, biK_1, blK_1, blK2_1, eBi_u, lBi_u, isiK_1, isiK2_1, eIsi_u, revK_1, revK2_1, lRev_u, andEK_1, andEK_2, orEK_1, orEK_2, notEK_1, orSK_1, ifEK_1, ifEK_2, tofK_1, eAnd_u, eOr_u, eNot_u, eOrS_u, eIf_u, tOf_u, chK1_1, chK2_1, chK3_1, chK3_2, eChain_u, tandK_1, tandK_2, torK_1, torK_2, tnotK_1, tTrue_u, tfAnd_u, tfOr_u, tfNot_u, lcK1_1, lcK2_1, lcK3_1, lcK3_2, lcK4_1, lcK5_1, lcD_n, lcD_c, aLc_u, wipeD_n, wipeD_c, gdName_u, gsK_1, gsNil_u, gdTup_u, gsCons_u, iseqK_1, iseqK2_1, itupK_1, istrK_1, irng1K_1, irng2K_1, seqP_1, seqP_2, iSeq_u, iTupD_u, iStrD_u, iRange1_u, iRange2_u, m1K_1, m1K2_1, m0K_1, s1K_1, eMeth1_u, eMeth0_u, eS1_u, setK_1, asgK_1, asgK2_1, retK_1, expK_1, seqK_1, seqK_2, seqK_3, ifK_1, ifK_2, forK_1, forD_n, forK2_1, forK3_1, forK3_2, forK3_3, fnK_1, fnK_2, gcK_1, sNext_u, sBrk_u, stK_1, stK0_1, stK1_1, stK2_1, sSet_u, sAsg_u, sRet_u, sExp_u, sSeq_u, sIf_u, sFor_u, forD_c, fnD_u, gcFn_u, sSetIx_u, dAdd_i, dAdd_s, dAdd_t, dAdd_l, dSub_i, dCmp_i, dEq_s, dEq_i, dEq_b, dNe_s, dNe_i, dNe_b, dIx_t, dIx_l, dIx_c, dSlice_t, dSlice_l, dSlice_c, dSlice_s, bLen_t, bLen_l, bLen_s, bTup_t, bTup_l, blList_t, blList_l, bInt_i, bInt_t, bInt_f, bMin_i, dIsN_1, dIsN_2, seqL_l, seqL_c, dMod_i, dDiv_i, dMul_r, dMul_l, bLen_c, gc_same, pow12, dicS_d, dicO_1, keyO_s, keyO_i, dgK_1, dgK2_1, diK_1, diK2_f, diK2_t, valD_n, mergeD_n, mergeD_c, putD_n, ienK_1, ppNil_u, ppK_1, ppK2_1, ppK3_1, keysD_n, kdK_1, kdK2_1, ddK_1, ddK2_1, g2K_1, g2K1_1, g2K2_1, g2K3_1, g2K4_1, isDic_d, dpK_1, dpK1_1, dpK2_1, dpK3_1, dbK_1, dbK2_1, bdCopy_1, ddNew_u, dicS_r, dGet_u, dInK_u, valD_c, putD_c, iEnumD_u, ppCons_u, keysD_c, ddDisp_u, eGet2_u, sDput_u, ddCopy_u, List.map_cons, List.map_nil, List.length_cons, List.length_nil, List.cons_append, List.nil_append, List.append_nil, List.getElem?_cons_zero, List.getElem?_cons_succ, List.set_cons_zero, List.set_cons_succ, ofString_inj, ofString_beq, ev, step, hv, Stp.d]
  | false =>
    rw [hv] at ev
    have ep := line_D (k := k) (by omega) p S ok hl
    have hv' := hd_isV hv
    have hi := hd_inn p
    have es : step p = stepH (frs p).reverse (hd p) := by unfold step; rw [hv]; rfl
    obtain ⟨lf, lp⟩ := ln_fr p
    have ll : (ln p).length < 10000000 := by rw [← List.length_map (f := frOf), lf]; exact hl
    rw [es, ← lf]
    generalize ln p = L at ep lp ll
    generalize hd p = h at ep hv' hi nn hb
    have st3 : b__law_step (Fk k) [some p.d, none, none, none, none, none, none, none, none] S = b__law_step_t4 (Fk k) [some p.d, some (.lst (L.map entD)), some h.d, none, none, none, none, none, none] S := by
      have e0 := cut_init (L.map entD) (entD (h, 0))
      have a0 : ∀ S, dIx (entD (h, 0)) (.int 0) S = some h.d := fun S => by simp [entD, dIx_t, atI, ixN]
      simp [b__law_step, b__law_step_t1, b__law_step_t2, b__law_step_t3, varK_1, eVar_u, eC_u, aNil_u, acK1_1, acK2_1, aCons_u, tupK_1, eTup_u, ldK_1, lDisp_u, eLK_1, eLMK_1, eL_u, eLM_u, eDiK_1, eDMK_1, eDi_u, eDM_u, opK1_1, opK2_1, opK3_1, eOp_u, negK_1, eNeg_u, slK1_1, slK2_1, slK3_1, slK4_1, ptSK_1, ptN_u, ptS_u, eSlice_u, callK_1, eCall_u, biK_1, blK_1, blK2_1, eBi_u, lBi_u, isiK_1, isiK2_1, eIsi_u, revK_1, revK2_1, lRev_u, andEK_1, andEK_2, orEK_1, orEK_2, notEK_1, orSK_1, ifEK_1, ifEK_2, tofK_1, eAnd_u, eOr_u, eNot_u, eOrS_u, eIf_u, tOf_u, chK1_1, chK2_1, chK3_1, chK3_2, eChain_u, tandK_1, tandK_2, torK_1, torK_2, tnotK_1, tTrue_u, tfAnd_u, tfOr_u, tfNot_u, lcK1_1, lcK2_1, lcK3_1, lcK3_2, lcK4_1, lcK5_1, lcD_n, lcD_c, aLc_u, wipeD_n, wipeD_c, gdName_u, gsK_1, gsNil_u, gdTup_u, gsCons_u, iseqK_1, iseqK2_1, itupK_1, istrK_1, irng1K_1, irng2K_1, seqP_1, seqP_2, iSeq_u, iTupD_u, iStrD_u, iRange1_u, iRange2_u, m1K_1, m1K2_1, m0K_1, s1K_1, eMeth1_u, eMeth0_u, eS1_u, setK_1, asgK_1, asgK2_1, retK_1, expK_1, seqK_1, seqK_2, seqK_3, ifK_1, ifK_2, forK_1, forD_n, forK2_1, forK3_1, forK3_2, forK3_3, fnK_1, fnK_2, gcK_1, sNext_u, sBrk_u, stK_1, stK0_1, stK1_1, stK2_1, sSet_u, sAsg_u, sRet_u, sExp_u, sSeq_u, sIf_u, sFor_u, forD_c, fnD_u, gcFn_u, sSetIx_u, dAdd_i, dAdd_s, dAdd_t, dAdd_l, dSub_i, dCmp_i, dEq_s, dEq_i, dEq_b, dNe_s, dNe_i, dNe_b, dIx_t, dIx_l, dIx_c, dSlice_t, dSlice_l, dSlice_c, dSlice_s, bLen_t, bLen_l, bLen_s, bTup_t, bTup_l, blList_t, blList_l, bInt_i, bInt_t, bInt_f, bMin_i, dIsN_1, dIsN_2, seqL_l, seqL_c, dMod_i, dDiv_i, dMul_r, dMul_l, bLen_c, gc_same, pow12, dicS_d, dicO_1, keyO_s, keyO_i, dgK_1, dgK2_1, diK_1, diK2_f, diK2_t, valD_n, mergeD_n, mergeD_c, putD_n, ienK_1, ppNil_u, ppK_1, ppK2_1, ppK3_1, keysD_n, kdK_1, kdK2_1, ddK_1, ddK2_1, g2K_1, g2K1_1, g2K2_1, g2K3_1, g2K4_1, isDic_d, dpK_1, dpK1_1, dpK2_1, dpK3_1, dbK_1, dbK2_1, bdCopy_1, ddNew_u, dicS_r, dGet_u, dInK_u, valD_c, putD_c, iEnumD_u, ppCons_u, keysD_c, ddDisp_u, eGet2_u, sDput_u, ddCopy_u, List.map_cons, List.map_nil, List.length_cons, List.length_nil, List.cons_append, List.nil_append, List.append_nil, List.getElem?_cons_zero, List.getElem?_cons_succ, List.set_cons_zero, List.set_cons_succ, ofString_inj, ofString_beq, ev, ep, atI_last, e0, a0]
    have fin : ∀ d, b__law_step_t4 (Fk k) [some p.d, some (.lst (L.map entD)), some h.d, none, none, none, none, none, none] S = some (.rt d S) → bodies (Fk k) ._law_step [p.d] S = some (d, S) := by
      intro d hd
      show gcFn (fnD 9 (b__law_step (Fk k))) _ _ = _
      rw [gcFn_u, fnD_u]
      simp only [List.map_cons, List.map_nil, List.length_cons, List.length_nil, List.cons_append, List.nil_append]
      rw [show List.replicate (9 - (0 + 1)) none = ([none, none, none, none, none, none, none, none] : Sl) from rfl, st3, hd, fnK_1, gcK_1, gc_same (Nat.le_refl _)]
    refine fin _ ?_
    clear fin st3 ep ev
    by_cases ht : ∃ a x b, h = .take a x b
    · obtain ⟨a, x, b, rfl⟩ := ht
      simp only [bdc] at hb
      have rn : (L.map entD).length < 4611686018427387904 := by simp; omega
      have er : lcD (gdName 7) (tOf (eOp (dEq 64) (eOp dIx (eOp dIx (eOp dIx (eVar 1) (eVar 7)) (eC (.int 0))) (eC (.int 0))) (eC (.str "round")))) (eVar 7) [some p.d, some (.lst (L.map entD)), some (Pc.take a x b).d, none, none, none, none, none, none] (rangeD 0 (L.length : Nat)) S = some (rounds L, S) := by
        unfold rangeD rounds
        have e0 : ((L.length : Int) - 0).toNat = L.length := by omega
        rw [e0]
        have e1 : (fun i : Nat => D.int (0 + (i : Int))) = fun i : Nat => D.int (i : Int) := by funext i; simp
        rw [e1]
        refine lcD_fil _ (fun i : Nat => D.int (i : Int)) (fun i : Nat => D.int (i : Int)) fun i hi => ?_
        have hi := List.mem_range.mp hi
        refine ⟨[some p.d, some (.lst (L.map entD)), some (Pc.take a x b).d, none, none, none, none, some (.int (i : Nat)), none], by simp [gdName], ?_, fun _ => by simp [varK_1, eVar_u, eC_u, aNil_u, acK1_1, acK2_1, aCons_u, tupK_1, eTup_u, ldK_1, lDisp_u, eLK_1, eLMK_1, eL_u, eLM_u, eDiK_1, eDMK_1, eDi_u, eDM_u, opK1_1, opK2_1, opK3_1, eOp_u, negK_1, eNeg_u, slK1_1, slK2_1, slK3_1, slK4_1, ptSK_1, ptN_u, ptS_u, eSlice_u, callK_1, eCall_u, biK_1, blK_1, blK2_1, eBi_u, lBi_u, isiK_1, isiK2_1, eIsi_u, revK_1, revK2_1, lRev_u, andEK_1, andEK_2, orEK_1, orEK_2, notEK_1, orSK_1, ifEK_1, ifEK_2, tofK_1, eAnd_u, eOr_u, eNot_u, eOrS_u, eIf_u, tOf_u, chK1_1, chK2_1, chK3_1, chK3_2, eChain_u, tandK_1, tandK_2, torK_1, torK_2, tnotK_1, tTrue_u, tfAnd_u, tfOr_u, tfNot_u, lcK1_1, lcK2_1, lcK3_1, lcK3_2, lcK4_1, lcK5_1, lcD_n, lcD_c, aLc_u, wipeD_n, wipeD_c, gdName_u, gsK_1, gsNil_u, gdTup_u, gsCons_u, iseqK_1, iseqK2_1, itupK_1, istrK_1, irng1K_1, irng2K_1, seqP_1, seqP_2, iSeq_u, iTupD_u, iStrD_u, iRange1_u, iRange2_u, m1K_1, m1K2_1, m0K_1, s1K_1, eMeth1_u, eMeth0_u, eS1_u, setK_1, asgK_1, asgK2_1, retK_1, expK_1, seqK_1, seqK_2, seqK_3, ifK_1, ifK_2, forK_1, forD_n, forK2_1, forK3_1, forK3_2, forK3_3, fnK_1, fnK_2, gcK_1, sNext_u, sBrk_u, stK_1, stK0_1, stK1_1, stK2_1, sSet_u, sAsg_u, sRet_u, sExp_u, sSeq_u, sIf_u, sFor_u, forD_c, fnD_u, gcFn_u, sSetIx_u, dAdd_i, dAdd_s, dAdd_t, dAdd_l, dSub_i, dCmp_i, dEq_s, dEq_i, dEq_b, dNe_s, dNe_i, dNe_b, dIx_t, dIx_l, dIx_c, dSlice_t, dSlice_l, dSlice_c, dSlice_s, bLen_t, bLen_l, bLen_s, bTup_t, bTup_l, blList_t, blList_l, bInt_i, bInt_t, bInt_f, bMin_i, dIsN_1, dIsN_2, seqL_l, seqL_c, dMod_i, dDiv_i, dMul_r, dMul_l, bLen_c, gc_same, pow12, dicS_d, dicO_1, keyO_s, keyO_i, dgK_1, dgK2_1, diK_1, diK2_f, diK2_t, valD_n, mergeD_n, mergeD_c, putD_n, ienK_1, ppNil_u, ppK_1, ppK2_1, ppK3_1, keysD_n, kdK_1, kdK2_1, ddK_1, ddK2_1, g2K_1, g2K1_1, g2K2_1, g2K3_1, g2K4_1, isDic_d, dpK_1, dpK1_1, dpK2_1, dpK3_1, dbK_1, dbK2_1, bdCopy_1, ddNew_u, dicS_r, dGet_u, dInK_u, valD_c, putD_c, iEnumD_u, ppCons_u, keysD_c, ddDisp_u, eGet2_u, sDput_u, ddCopy_u, List.map_cons, List.map_nil, List.length_cons, List.length_nil, List.cons_append, List.nil_append, List.append_nil, List.getElem?_cons_zero, List.getElem?_cons_succ, List.set_cons_zero, List.set_cons_succ, ofString_inj, ofString_beq]⟩
        have e2 : atI (L.map entD) (i : Int) = some (entD L[i]) := atI_nat (by simp [hi])
        have e3 : dIx (entD L[i]) (.int 0) S = some L[i].1.d := by simp [entD, dIx_t, atI, ixN]
        have e4 := wd_ix L[i].1 S
        have e5 := wd_rnd L[i]
        rw [List.getElem?_eq_getElem hi]
        simp [varK_1, eVar_u, eC_u, aNil_u, acK1_1, acK2_1, aCons_u, tupK_1, eTup_u, ldK_1, lDisp_u, eLK_1, eLMK_1, eL_u, eLM_u, eDiK_1, eDMK_1, eDi_u, eDM_u, opK1_1, opK2_1, opK3_1, eOp_u, negK_1, eNeg_u, slK1_1, slK2_1, slK3_1, slK4_1, ptSK_1, ptN_u, ptS_u, eSlice_u, callK_1, eCall_u, biK_1, blK_1, blK2_1, eBi_u, lBi_u, isiK_1, isiK2_1, eIsi_u, revK_1, revK2_1, lRev_u, andEK_1, andEK_2, orEK_1, orEK_2, notEK_1, orSK_1, ifEK_1, ifEK_2, tofK_1, eAnd_u, eOr_u, eNot_u, eOrS_u, eIf_u, tOf_u, chK1_1, chK2_1, chK3_1, chK3_2, eChain_u, tandK_1, tandK_2, torK_1, torK_2, tnotK_1, tTrue_u, tfAnd_u, tfOr_u, tfNot_u, lcK1_1, lcK2_1, lcK3_1, lcK3_2, lcK4_1, lcK5_1, lcD_n, lcD_c, aLc_u, wipeD_n, wipeD_c, gdName_u, gsK_1, gsNil_u, gdTup_u, gsCons_u, iseqK_1, iseqK2_1, itupK_1, istrK_1, irng1K_1, irng2K_1, seqP_1, seqP_2, iSeq_u, iTupD_u, iStrD_u, iRange1_u, iRange2_u, m1K_1, m1K2_1, m0K_1, s1K_1, eMeth1_u, eMeth0_u, eS1_u, setK_1, asgK_1, asgK2_1, retK_1, expK_1, seqK_1, seqK_2, seqK_3, ifK_1, ifK_2, forK_1, forD_n, forK2_1, forK3_1, forK3_2, forK3_3, fnK_1, fnK_2, gcK_1, sNext_u, sBrk_u, stK_1, stK0_1, stK1_1, stK2_1, sSet_u, sAsg_u, sRet_u, sExp_u, sSeq_u, sIf_u, sFor_u, forD_c, fnD_u, gcFn_u, sSetIx_u, dAdd_i, dAdd_s, dAdd_t, dAdd_l, dSub_i, dCmp_i, dEq_s, dEq_i, dEq_b, dNe_s, dNe_i, dNe_b, dIx_t, dIx_l, dIx_c, dSlice_t, dSlice_l, dSlice_c, dSlice_s, bLen_t, bLen_l, bLen_s, bTup_t, bTup_l, blList_t, blList_l, bInt_i, bInt_t, bInt_f, bMin_i, dIsN_1, dIsN_2, seqL_l, seqL_c, dMod_i, dDiv_i, dMul_r, dMul_l, bLen_c, gc_same, pow12, dicS_d, dicO_1, keyO_s, keyO_i, dgK_1, dgK2_1, diK_1, diK2_f, diK2_t, valD_n, mergeD_n, mergeD_c, putD_n, ienK_1, ppNil_u, ppK_1, ppK2_1, ppK3_1, keysD_n, kdK_1, kdK2_1, ddK_1, ddK2_1, g2K_1, g2K1_1, g2K2_1, g2K3_1, g2K4_1, isDic_d, dpK_1, dpK1_1, dpK2_1, dpK3_1, dbK_1, dbK2_1, bdCopy_1, ddNew_u, dicS_r, dGet_u, dInK_u, valD_c, putD_c, iEnumD_u, ppCons_u, keysD_c, ddDisp_u, eGet2_u, sDput_u, ddCopy_u, List.map_cons, List.map_nil, List.length_cons, List.length_nil, List.cons_append, List.nil_append, List.append_nil, List.getElem?_cons_zero, List.getElem?_cons_succ, List.set_cons_zero, List.set_cons_succ, ofString_inj, ofString_beq, e2, e3, e4]
        exact e5
      have en := dEq_nil 63 S L
      cases hr : rix (L.map frOf).reverse with
      | none =>
        have hno : ∀ e ∈ L, isR e = false := by
          intro e he
          have h1 := rix_none.mp hr (frOf e) (by simp; exact ⟨e.1, e.2, he, rfl⟩)
          cases q : isR e with
          | false => rfl
          | true => exact absurd ((isR_fr (lp e he)).mp q) h1
        rw [rounds_none hno] at er en
        simp only [Pc.d] at er
        have rn2 : (L.length : Int) < 4611686018427387904 := by omega
        have rn3 : L.length ≤ 10000000 := by omega
        have en2 : dEq 64 (.lst []) (.lst []) S = some (.bl true) := en
        simp [b__law_step_t4, b__law_step_t5, b__law_step_t6, varK_1, eVar_u, eC_u, aNil_u, acK1_1, acK2_1, aCons_u, tupK_1, eTup_u, ldK_1, lDisp_u, eLK_1, eLMK_1, eL_u, eLM_u, eDiK_1, eDMK_1, eDi_u, eDM_u, opK1_1, opK2_1, opK3_1, eOp_u, negK_1, eNeg_u, slK1_1, slK2_1, slK3_1, slK4_1, ptSK_1, ptN_u, ptS_u, eSlice_u, callK_1, eCall_u, biK_1, blK_1, blK2_1, eBi_u, lBi_u, isiK_1, isiK2_1, eIsi_u, revK_1, revK2_1, lRev_u, andEK_1, andEK_2, orEK_1, orEK_2, notEK_1, orSK_1, ifEK_1, ifEK_2, tofK_1, eAnd_u, eOr_u, eNot_u, eOrS_u, eIf_u, tOf_u, chK1_1, chK2_1, chK3_1, chK3_2, eChain_u, tandK_1, tandK_2, torK_1, torK_2, tnotK_1, tTrue_u, tfAnd_u, tfOr_u, tfNot_u, lcK1_1, lcK2_1, lcK3_1, lcK3_2, lcK4_1, lcK5_1, lcD_n, lcD_c, aLc_u, wipeD_n, wipeD_c, gdName_u, gsK_1, gsNil_u, gdTup_u, gsCons_u, iseqK_1, iseqK2_1, itupK_1, istrK_1, irng1K_1, irng2K_1, seqP_1, seqP_2, iSeq_u, iTupD_u, iStrD_u, iRange1_u, iRange2_u, m1K_1, m1K2_1, m0K_1, s1K_1, eMeth1_u, eMeth0_u, eS1_u, setK_1, asgK_1, asgK2_1, retK_1, expK_1, seqK_1, seqK_2, seqK_3, ifK_1, ifK_2, forK_1, forD_n, forK2_1, forK3_1, forK3_2, forK3_3, fnK_1, fnK_2, gcK_1, sNext_u, sBrk_u, stK_1, stK0_1, stK1_1, stK2_1, sSet_u, sAsg_u, sRet_u, sExp_u, sSeq_u, sIf_u, sFor_u, forD_c, fnD_u, gcFn_u, sSetIx_u, dAdd_i, dAdd_s, dAdd_t, dAdd_l, dSub_i, dCmp_i, dEq_s, dEq_i, dEq_b, dNe_s, dNe_i, dNe_b, dIx_t, dIx_l, dIx_c, dSlice_t, dSlice_l, dSlice_c, dSlice_s, bLen_t, bLen_l, bLen_s, bTup_t, bTup_l, blList_t, blList_l, bInt_i, bInt_t, bInt_f, bMin_i, dIsN_1, dIsN_2, seqL_l, seqL_c, dMod_i, dDiv_i, dMul_r, dMul_l, bLen_c, gc_same, pow12, dicS_d, dicO_1, keyO_s, keyO_i, dgK_1, dgK2_1, diK_1, diK2_f, diK2_t, valD_n, mergeD_n, mergeD_c, putD_n, ienK_1, ppNil_u, ppK_1, ppK2_1, ppK3_1, keysD_n, kdK_1, kdK2_1, ddK_1, ddK2_1, g2K_1, g2K1_1, g2K2_1, g2K3_1, g2K4_1, isDic_d, dpK_1, dpK1_1, dpK2_1, dpK3_1, dbK_1, dbK2_1, bdCopy_1, ddNew_u, dicS_r, dGet_u, dInK_u, valD_c, putD_c, iEnumD_u, ppCons_u, keysD_c, ddDisp_u, eGet2_u, sDput_u, ddCopy_u, List.map_cons, List.map_nil, List.length_cons, List.length_nil, List.cons_append, List.nil_append, List.append_nil, List.getElem?_cons_zero, List.getElem?_cons_succ, List.set_cons_zero, List.set_cons_succ, ofString_inj, ofString_beq, Pc.d, atI, ixN, rangeD_len, rn2, rn3, er, en2, stepH, hr, Stp.d]
      | some n =>
        obtain ⟨fa, fb, e1, e2, e3⟩ := rix_some hr
        have e4 : L.map frOf = fb.reverse ++ .rnd :: fa.reverse := by
          have := congrArg List.reverse e1
          simpa using this
        obtain ⟨l1, l', eL, m1, m2⟩ := List.map_eq_append_iff.mp e4
        obtain ⟨e, l2, eL', m3, m4⟩ := List.map_eq_cons_iff.mp m2
        subst eL'
        subst eL
        have he : isR e = true := (isR_fr (lp e (by simp))).mpr m3
        have hl2 : ∀ e ∈ l2, isR e = false := by
          intro e' he'
          cases q : isR e' with
          | false => rfl
          | true =>
            have h1 := (isR_fr (lp e' (by simp [he']))).mp q
            exact absurd h1 (e3 _ (by
              have : frOf e' ∈ fa.reverse := by rw [← m4]; exact List.mem_map_of_mem he'
              exact List.mem_reverse.mp this))
        obtain ⟨r, er2⟩ := rounds_last (l1 := l1) he hl2
        rw [er2] at er en
        have en2 : dEq 64 (.lst (r ++ [.int (l1.length : Nat)])) (.lst []) S = some (.bl false) := by rw [en]; simp
        have t1 : ((l1 ++ e :: l2).map frOf).reverse.take n = (l2.map frOf).reverse := by
          rw [e1, m4, List.reverse_reverse, ← e2, List.take_left]
        have t2 : ((l1 ++ e :: l2).map frOf).reverse.drop n = ((l1 ++ [e]).map frOf).reverse := by
          rw [e1, ← e2, List.drop_left]
          simp [m1, m3]
        have c1 : cutD ((l1 ++ e :: l2).map entD) (some ((l1.length : Int) + 1)) none = l2.map entD := by
          have : (l1.length : Int) + 1 = ((l1.length + 1 : Nat) : Int) := by omega
          rw [this, cut_drop, ← List.map_drop]
          congr 1
          rw [show l1 ++ e :: l2 = (l1 ++ [e]) ++ l2 by simp]
          rw [List.drop_left' (by simp)]
        have c2 : cutD ((l1 ++ e :: l2).map entD) none (some ((l1.length : Int) + 1)) = (l1 ++ [e]).map entD := by
          have : (l1.length : Int) + 1 = ((l1.length + 1 : Nat) : Int) := by omega
          rw [this, cut_take, ← List.map_take]
          congr 1
          rw [show l1 ++ e :: l2 = (l1 ++ [e]) ++ l2 by simp]
          rw [List.take_left' (by simp)]
        have ef : ∀ z5, lcD (gdName 8) tTrue (eCall 2 (Fk k ._law_frame) (aCons (eOp dIx (eVar 8) (eC (.int 0))) (aCons (eOp dIx (eVar 8) (eC (.int 1))) aNil))) [some p.d, some (.lst ((l1 ++ e :: l2).map entD)), some (Pc.take a x b).d, some (.lst (r ++ [.int (l1.length : Nat)])), none, none, none, z5, none] (l2.map entD) S = some (l2.map fun e => (frOf e).d, S) := by
          intro z5
          refine lcD_mapL entD (fun e => (frOf e).d) fun e' he' => ⟨[some p.d, some (.lst ((l1 ++ e :: l2).map entD)), some (Pc.take a x b).d, some (.lst (r ++ [.int (l1.length : Nat)])), none, none, none, z5, some (entD e')], by simp [gdName], by simp [tTrue], ?_⟩
          have f1 := frame_D (k := k) (by omega) e' S (lp e' (by simp [he']))
          have f2 : ∀ S, dIx (entD e') (.int 0) S = some e'.1.d := fun S => by simp [entD, dIx_t, atI, ixN]
          have f3 : ∀ S, dIx (entD e') (.int 1) S = some (.int (e'.2 : Nat)) := fun S => by simp [entD, dIx_t, atI, ixN]
          simp [varK_1, eVar_u, eC_u, aNil_u, acK1_1, acK2_1, aCons_u, tupK_1, eTup_u, ldK_1, lDisp_u, eLK_1, eLMK_1, eL_u, eLM_u, eDiK_1, eDMK_1, eDi_u, eDM_u, opK1_1, opK2_1, opK3_1, eOp_u, negK_1, eNeg_u, slK1_1, slK2_1, slK3_1, slK4_1, ptSK_1, ptN_u, ptS_u, eSlice_u, callK_1, eCall_u, biK_1, blK_1, blK2_1, eBi_u, lBi_u, isiK_1, isiK2_1, eIsi_u, revK_1, revK2_1, lRev_u, andEK_1, andEK_2, orEK_1, orEK_2, notEK_1, orSK_1, ifEK_1, ifEK_2, tofK_1, eAnd_u, eOr_u, eNot_u, eOrS_u, eIf_u, tOf_u, chK1_1, chK2_1, chK3_1, chK3_2, eChain_u, tandK_1, tandK_2, torK_1, torK_2, tnotK_1, tTrue_u, tfAnd_u, tfOr_u, tfNot_u, lcK1_1, lcK2_1, lcK3_1, lcK3_2, lcK4_1, lcK5_1, lcD_n, lcD_c, aLc_u, wipeD_n, wipeD_c, gdName_u, gsK_1, gsNil_u, gdTup_u, gsCons_u, iseqK_1, iseqK2_1, itupK_1, istrK_1, irng1K_1, irng2K_1, seqP_1, seqP_2, iSeq_u, iTupD_u, iStrD_u, iRange1_u, iRange2_u, m1K_1, m1K2_1, m0K_1, s1K_1, eMeth1_u, eMeth0_u, eS1_u, setK_1, asgK_1, asgK2_1, retK_1, expK_1, seqK_1, seqK_2, seqK_3, ifK_1, ifK_2, forK_1, forD_n, forK2_1, forK3_1, forK3_2, forK3_3, fnK_1, fnK_2, gcK_1, sNext_u, sBrk_u, stK_1, stK0_1, stK1_1, stK2_1, sSet_u, sAsg_u, sRet_u, sExp_u, sSeq_u, sIf_u, sFor_u, forD_c, fnD_u, gcFn_u, sSetIx_u, dAdd_i, dAdd_s, dAdd_t, dAdd_l, dSub_i, dCmp_i, dEq_s, dEq_i, dEq_b, dNe_s, dNe_i, dNe_b, dIx_t, dIx_l, dIx_c, dSlice_t, dSlice_l, dSlice_c, dSlice_s, bLen_t, bLen_l, bLen_s, bTup_t, bTup_l, blList_t, blList_l, bInt_i, bInt_t, bInt_f, bMin_i, dIsN_1, dIsN_2, seqL_l, seqL_c, dMod_i, dDiv_i, dMul_r, dMul_l, bLen_c, gc_same, pow12, dicS_d, dicO_1, keyO_s, keyO_i, dgK_1, dgK2_1, diK_1, diK2_f, diK2_t, valD_n, mergeD_n, mergeD_c, putD_n, ienK_1, ppNil_u, ppK_1, ppK2_1, ppK3_1, keysD_n, kdK_1, kdK2_1, ddK_1, ddK2_1, g2K_1, g2K1_1, g2K2_1, g2K3_1, g2K4_1, isDic_d, dpK_1, dpK1_1, dpK2_1, dpK3_1, dbK_1, dbK2_1, bdCopy_1, ddNew_u, dicS_r, dGet_u, dInK_u, valD_c, putD_c, iEnumD_u, ppCons_u, keysD_c, ddDisp_u, eGet2_u, sDput_u, ddCopy_u, List.map_cons, List.map_nil, List.length_cons, List.length_nil, List.cons_append, List.nil_append, List.append_nil, List.getElem?_cons_zero, List.getElem?_cons_succ, List.set_cons_zero, List.set_cons_succ, ofString_inj, ofString_beq, f1, f2, f3]
        have kd : (Pc.kept a (l2.map frOf).reverse).d = .tup [.str "kept", .int a, .tup (l2.map fun e => (frOf e).d).reverse] := by
          simp only [Pc.d]
          rw [ds_map, List.map_reverse, List.map_map]
          rfl
        have p1 := law_put_D x (.kept a (l2.map frOf).reverse) b k S (by omega)
        rw [kd] at p1
        have p2 := about_D (k := k) (by omega) (l1 ++ [e]) (put x (.kept a (l2.map frOf).reverse) b) S (fun e' he' => lp e' (by
          rcases List.mem_append.mp he' with q | q
          · simp [q]
          · simp at q; simp [q]))
        have es2 : stepH ((l1 ++ e :: l2).map frOf).reverse (.take a x b) = .step (plug ((l1 ++ [e]).map frOf).reverse (put x (.kept a (l2.map frOf).reverse) b)) := by
          simp only [stepH, hr, t1, t2]
        rw [es2]
        simp only [Pc.d] at er ef
        have rn2 : ((l1 ++ e :: l2).length : Int) < 4611686018427387904 := by omega
        have rn3 : (l1 ++ e :: l2).length ≤ 10000000 := by omega
        have rn4 : l2.length ≤ 10000000 := by simp at ll; omega
        have lm : ((l1 ++ e :: l2).map entD).length = (l1 ++ e :: l2).length := List.length_map _
        have lm2 : (l2.map entD).length = l2.length := List.length_map _
        generalize (l1 ++ e :: l2).map entD = EE at *
        generalize (l1 ++ [e]).map entD = EF at *
        generalize l2.map entD = EG at *
        rw [← lm] at er rn2 rn3
        rw [← lm2] at rn4
        simp [b__law_step_t4, b__law_step_t5, b__law_step_t6, b__law_step_t7, b__law_step_t8, b__law_step_t9, varK_1, eVar_u, eC_u, aNil_u, acK1_1, acK2_1, aCons_u, tupK_1, eTup_u, ldK_1, lDisp_u, eLK_1, eLMK_1, eL_u, eLM_u, eDiK_1, eDMK_1, eDi_u, eDM_u, opK1_1, opK2_1, opK3_1, eOp_u, negK_1, eNeg_u, slK1_1, slK2_1, slK3_1, slK4_1, ptSK_1, ptN_u, ptS_u, eSlice_u, callK_1, eCall_u, biK_1, blK_1, blK2_1, eBi_u, lBi_u, isiK_1, isiK2_1, eIsi_u, revK_1, revK2_1, lRev_u, andEK_1, andEK_2, orEK_1, orEK_2, notEK_1, orSK_1, ifEK_1, ifEK_2, tofK_1, eAnd_u, eOr_u, eNot_u, eOrS_u, eIf_u, tOf_u, chK1_1, chK2_1, chK3_1, chK3_2, eChain_u, tandK_1, tandK_2, torK_1, torK_2, tnotK_1, tTrue_u, tfAnd_u, tfOr_u, tfNot_u, lcK1_1, lcK2_1, lcK3_1, lcK3_2, lcK4_1, lcK5_1, lcD_n, lcD_c, aLc_u, wipeD_n, wipeD_c, gdName_u, gsK_1, gsNil_u, gdTup_u, gsCons_u, iseqK_1, iseqK2_1, itupK_1, istrK_1, irng1K_1, irng2K_1, seqP_1, seqP_2, iSeq_u, iTupD_u, iStrD_u, iRange1_u, iRange2_u, m1K_1, m1K2_1, m0K_1, s1K_1, eMeth1_u, eMeth0_u, eS1_u, setK_1, asgK_1, asgK2_1, retK_1, expK_1, seqK_1, seqK_2, seqK_3, ifK_1, ifK_2, forK_1, forD_n, forK2_1, forK3_1, forK3_2, forK3_3, fnK_1, fnK_2, gcK_1, sNext_u, sBrk_u, stK_1, stK0_1, stK1_1, stK2_1, sSet_u, sAsg_u, sRet_u, sExp_u, sSeq_u, sIf_u, sFor_u, forD_c, fnD_u, gcFn_u, sSetIx_u, dAdd_i, dAdd_s, dAdd_t, dAdd_l, dSub_i, dCmp_i, dEq_s, dEq_i, dEq_b, dNe_s, dNe_i, dNe_b, dIx_t, dIx_l, dIx_c, dSlice_t, dSlice_l, dSlice_c, dSlice_s, bLen_t, bLen_l, bLen_s, bTup_t, bTup_l, blList_t, blList_l, bInt_i, bInt_t, bInt_f, bMin_i, dIsN_1, dIsN_2, seqL_l, seqL_c, dMod_i, dDiv_i, dMul_r, dMul_l, bLen_c, gc_same, pow12, dicS_d, dicO_1, keyO_s, keyO_i, dgK_1, dgK2_1, diK_1, diK2_f, diK2_t, valD_n, mergeD_n, mergeD_c, putD_n, ienK_1, ppNil_u, ppK_1, ppK2_1, ppK3_1, keysD_n, kdK_1, kdK2_1, ddK_1, ddK2_1, g2K_1, g2K1_1, g2K2_1, g2K3_1, g2K4_1, isDic_d, dpK_1, dpK1_1, dpK2_1, dpK3_1, dbK_1, dbK2_1, bdCopy_1, ddNew_u, dicS_r, dGet_u, dInK_u, valD_c, putD_c, iEnumD_u, ppCons_u, keysD_c, ddDisp_u, eGet2_u, sDput_u, ddCopy_u, List.map_cons, List.map_nil, List.length_cons, List.length_nil, List.cons_append, List.nil_append, List.append_nil, List.getElem?_cons_zero, List.getElem?_cons_succ, List.set_cons_zero, List.set_cons_succ, ofString_inj, ofString_beq, Pc.d, at0, at1, at2, at3, rangeD_len, rn2, rn3, rn4, er, en2, ef, atI_last, c1, c2, p1, p2, Stp.d]
    · have ht' : ∀ a x b, h ≠ .take a x b := fun a x b e => ht ⟨a, x, b, e⟩
      have ed := becomes_D (k := k) h S hi hv' nn ht' (by omega) (by omega)
      have hh : wd h ≠ "take" ∧ (becomes h = none → dIx h.d (.int 1) S = some (.int (mk h))) ∧ stepH (L.map frOf).reverse h = match becomes h with | none => .stuck (mk h) | some q => .step (plug (L.map frOf).reverse q) := by
        cases h with
        | take a x b => exact absurd rfl (ht' a x b)
        | name x => exact absurd rfl (nn x)
        | num n => simp [Pc.isV] at hv'
        | shut b x c => simp [Pc.isV] at hv'
        | kept b fs => simp [Pc.isV] at hv'
        | fn a x b => exact ⟨by simp [wd, ofString_inj], by simp [becomes], rfl⟩
        | rnd b => exact ⟨by simp [wd, ofString_inj], by simp [becomes], rfl⟩
        | call a f g => exact ⟨by simp [wd, ofString_inj], by simp [Pc.d, dIx_t, atI, ixN, mk], rfl⟩
        | plus a f g => exact ⟨by simp [wd, ofString_inj], by simp [Pc.d, dIx_t, atI, ixN, mk], rfl⟩
        | pick a c f g => exact ⟨by simp [wd, ofString_inj], by simp [Pc.d, dIx_t, atI, ixN, mk], rfl⟩
      obtain ⟨h2, h3, h4⟩ := hh
      have h1 := wd_ix h S
      have en := isNon_bec (becomes h)
      rw [h4]
      cases hq : becomes h with
      | none =>
        rw [hq] at ed en
        have h3 := h3 hq
        simp [b__law_step_t4, varK_1, eVar_u, eC_u, aNil_u, acK1_1, acK2_1, aCons_u, tupK_1, eTup_u, ldK_1, lDisp_u, eLK_1, eLMK_1, eL_u, eLM_u, eDiK_1, eDMK_1, eDi_u, eDM_u, opK1_1, opK2_1, opK3_1, eOp_u, negK_1, eNeg_u, slK1_1, slK2_1, slK3_1, slK4_1, ptSK_1, ptN_u, ptS_u, eSlice_u, callK_1, eCall_u, biK_1, blK_1, blK2_1, eBi_u, lBi_u, isiK_1, isiK2_1, eIsi_u, revK_1, revK2_1, lRev_u, andEK_1, andEK_2, orEK_1, orEK_2, notEK_1, orSK_1, ifEK_1, ifEK_2, tofK_1, eAnd_u, eOr_u, eNot_u, eOrS_u, eIf_u, tOf_u, chK1_1, chK2_1, chK3_1, chK3_2, eChain_u, tandK_1, tandK_2, torK_1, torK_2, tnotK_1, tTrue_u, tfAnd_u, tfOr_u, tfNot_u, lcK1_1, lcK2_1, lcK3_1, lcK3_2, lcK4_1, lcK5_1, lcD_n, lcD_c, aLc_u, wipeD_n, wipeD_c, gdName_u, gsK_1, gsNil_u, gdTup_u, gsCons_u, iseqK_1, iseqK2_1, itupK_1, istrK_1, irng1K_1, irng2K_1, seqP_1, seqP_2, iSeq_u, iTupD_u, iStrD_u, iRange1_u, iRange2_u, m1K_1, m1K2_1, m0K_1, s1K_1, eMeth1_u, eMeth0_u, eS1_u, setK_1, asgK_1, asgK2_1, retK_1, expK_1, seqK_1, seqK_2, seqK_3, ifK_1, ifK_2, forK_1, forD_n, forK2_1, forK3_1, forK3_2, forK3_3, fnK_1, fnK_2, gcK_1, sNext_u, sBrk_u, stK_1, stK0_1, stK1_1, stK2_1, sSet_u, sAsg_u, sRet_u, sExp_u, sSeq_u, sIf_u, sFor_u, forD_c, fnD_u, gcFn_u, sSetIx_u, dAdd_i, dAdd_s, dAdd_t, dAdd_l, dSub_i, dCmp_i, dEq_s, dEq_i, dEq_b, dNe_s, dNe_i, dNe_b, dIx_t, dIx_l, dIx_c, dSlice_t, dSlice_l, dSlice_c, dSlice_s, bLen_t, bLen_l, bLen_s, bTup_t, bTup_l, blList_t, blList_l, bInt_i, bInt_t, bInt_f, bMin_i, dIsN_1, dIsN_2, seqL_l, seqL_c, dMod_i, dDiv_i, dMul_r, dMul_l, bLen_c, gc_same, pow12, dicS_d, dicO_1, keyO_s, keyO_i, dgK_1, dgK2_1, diK_1, diK2_f, diK2_t, valD_n, mergeD_n, mergeD_c, putD_n, ienK_1, ppNil_u, ppK_1, ppK2_1, ppK3_1, keysD_n, kdK_1, kdK2_1, ddK_1, ddK2_1, g2K_1, g2K1_1, g2K2_1, g2K3_1, g2K4_1, isDic_d, dpK_1, dpK1_1, dpK2_1, dpK3_1, dbK_1, dbK2_1, bdCopy_1, ddNew_u, dicS_r, dGet_u, dInK_u, valD_c, putD_c, iEnumD_u, ppCons_u, keysD_c, ddDisp_u, eGet2_u, sDput_u, ddCopy_u, List.map_cons, List.map_nil, List.length_cons, List.length_nil, List.cons_append, List.nil_append, List.append_nil, List.getElem?_cons_zero, List.getElem?_cons_succ, List.set_cons_zero, List.set_cons_succ, ofString_inj, ofString_beq, ed, en, h1, h2, h3, Stp.d]
      | some q =>
        rw [hq] at ed en
        have e2 := about_D (k := k) (by omega) L q S lp
        have e2 : Fk k ._law_about [.lst (L.map entD), becD (some q)] S = some ((plug (L.map frOf).reverse q).d, S) := e2
        simp [b__law_step_t4, varK_1, eVar_u, eC_u, aNil_u, acK1_1, acK2_1, aCons_u, tupK_1, eTup_u, ldK_1, lDisp_u, eLK_1, eLMK_1, eL_u, eLM_u, eDiK_1, eDMK_1, eDi_u, eDM_u, opK1_1, opK2_1, opK3_1, eOp_u, negK_1, eNeg_u, slK1_1, slK2_1, slK3_1, slK4_1, ptSK_1, ptN_u, ptS_u, eSlice_u, callK_1, eCall_u, biK_1, blK_1, blK2_1, eBi_u, lBi_u, isiK_1, isiK2_1, eIsi_u, revK_1, revK2_1, lRev_u, andEK_1, andEK_2, orEK_1, orEK_2, notEK_1, orSK_1, ifEK_1, ifEK_2, tofK_1, eAnd_u, eOr_u, eNot_u, eOrS_u, eIf_u, tOf_u, chK1_1, chK2_1, chK3_1, chK3_2, eChain_u, tandK_1, tandK_2, torK_1, torK_2, tnotK_1, tTrue_u, tfAnd_u, tfOr_u, tfNot_u, lcK1_1, lcK2_1, lcK3_1, lcK3_2, lcK4_1, lcK5_1, lcD_n, lcD_c, aLc_u, wipeD_n, wipeD_c, gdName_u, gsK_1, gsNil_u, gdTup_u, gsCons_u, iseqK_1, iseqK2_1, itupK_1, istrK_1, irng1K_1, irng2K_1, seqP_1, seqP_2, iSeq_u, iTupD_u, iStrD_u, iRange1_u, iRange2_u, m1K_1, m1K2_1, m0K_1, s1K_1, eMeth1_u, eMeth0_u, eS1_u, setK_1, asgK_1, asgK2_1, retK_1, expK_1, seqK_1, seqK_2, seqK_3, ifK_1, ifK_2, forK_1, forD_n, forK2_1, forK3_1, forK3_2, forK3_3, fnK_1, fnK_2, gcK_1, sNext_u, sBrk_u, stK_1, stK0_1, stK1_1, stK2_1, sSet_u, sAsg_u, sRet_u, sExp_u, sSeq_u, sIf_u, sFor_u, forD_c, fnD_u, gcFn_u, sSetIx_u, dAdd_i, dAdd_s, dAdd_t, dAdd_l, dSub_i, dCmp_i, dEq_s, dEq_i, dEq_b, dNe_s, dNe_i, dNe_b, dIx_t, dIx_l, dIx_c, dSlice_t, dSlice_l, dSlice_c, dSlice_s, bLen_t, bLen_l, bLen_s, bTup_t, bTup_l, blList_t, blList_l, bInt_i, bInt_t, bInt_f, bMin_i, dIsN_1, dIsN_2, seqL_l, seqL_c, dMod_i, dDiv_i, dMul_r, dMul_l, bLen_c, gc_same, pow12, dicS_d, dicO_1, keyO_s, keyO_i, dgK_1, dgK2_1, diK_1, diK2_f, diK2_t, valD_n, mergeD_n, mergeD_c, putD_n, ienK_1, ppNil_u, ppK_1, ppK2_1, ppK3_1, keysD_n, kdK_1, kdK2_1, ddK_1, ddK2_1, g2K_1, g2K1_1, g2K2_1, g2K3_1, g2K4_1, isDic_d, dpK_1, dpK1_1, dpK2_1, dpK3_1, dbK_1, dbK2_1, bdCopy_1, ddNew_u, dicS_r, dGet_u, dInK_u, valD_c, putD_c, iEnumD_u, ppCons_u, keysD_c, ddDisp_u, eGet2_u, sDput_u, ddCopy_u, List.map_cons, List.map_nil, List.length_cons, List.length_nil, List.cons_append, List.nil_append, List.append_nil, List.getElem?_cons_zero, List.getElem?_cons_succ, List.set_cons_zero, List.set_cons_succ, ofString_inj, ofString_beq, ed, en, h1, h2, e2, Stp.d]
mutual
theorem okD_le {n m : Nat} (h : n ≤ m) : ∀ {d : D}, okD n d = true → okD m d = true
  | .non, _ => by simp [okD]
  | .bl _, _ => by simp [okD]
  | .int _, _ => by simp [okD]
  | .str _, _ => by simp [okD]
  | .scr _, _ => by simp [okD]
  | .tup xs, q => by simp only [okD] at q ⊢; exact okDs_le h q
  | .lst xs, q => by simp only [okD] at q ⊢; exact okDs_le h q
  | .dic ks, q => by simp only [okD] at q ⊢; exact okKs_le h q
  | .ref j, q => by simp only [okD, decide_eq_true_eq] at q ⊢; omega
theorem okDs_le {n m : Nat} (h : n ≤ m) : ∀ {ds : List D}, okDs n ds = true → okDs m ds = true
  | [], _ => by simp [okDs]
  | d :: ds, q => by simp only [okDs, Bool.and_eq_true] at q ⊢; exact ⟨okD_le h q.1, okDs_le h q.2⟩
theorem okKs_le {n m : Nat} (h : n ≤ m) : ∀ {ds : List (Key × D)}, okKs n ds = true → okKs m ds = true
  | [], _ => by simp [okKs]
  | (k, d) :: ds, q => by simp only [okKs, Bool.and_eq_true] at q ⊢; exact ⟨okD_le h q.1, okKs_le h q.2⟩
end
theorem okO_le {n m : Nat} {o : O} (q : okO n o = true) (h : n ≤ m) : okO m o = true := by
  cases o with
  | lst xs => exact okDs_le h q
  | dic ks => exact okKs_le h q
  | ins fs => exact okDs_le h q
theorem wf_ok {M V : Nat} : ∀ {p : Pc} {sc : List Str}, wf p sc → cd p ≤ 11 → Ok M V sc p
  | .num _, _, _, _ => trivial
  | .name _, _, h, _ => h
  | .fn a x b, _, h, hc => by simp only [cd] at hc; exact ⟨h.2.1, by omega, wf_ok h.2.2 (by omega)⟩
  | .call _ f g, _, h, hc => by simp only [cd] at hc; exact ⟨wf_ok h.2.1 (by omega), wf_ok h.2.2 (by omega)⟩
  | .plus _ f g, _, h, hc => by simp only [cd] at hc; exact ⟨wf_ok h.2.1 (by omega), wf_ok h.2.2 (by omega)⟩
  | .pick _ c f g, _, h, hc => by simp only [cd] at hc; exact ⟨wf_ok h.2.1 (by omega), wf_ok h.2.2.1 (by omega), wf_ok h.2.2.2 (by omega)⟩
  | .rnd b, sc, h, hc => by
    have h' : wf b sc := h
    simp only [cd] at hc
    exact wf_ok (p := b) h' (by omega)
  | .take a x b, _, h, hc => by simp only [cd] at hc; exact ⟨h.2.1, by omega, wf_ok h.2.2 (by omega)⟩
  | .shut .., _, h, _ => h.elim
  | .kept .., _, h, _ => h.elim
theorem piece_loop {k : Nat} (hk : 1 ≤ k) (c : Int) (S : List O) (d0 d1 : D) : ∀ (l : List Nat) (p : Pc) (z : Option D), (∀ i ∈ l, i < 100) → wf p [] → Ok 0 0 [] p → ∃ p' z', forD (gdName 4) (sSet 3 (eTup (aCons (eC (.str "plus")) (aCons (eCall 1 (Fk k ._law_mark_by) (aCons (eOp dAdd (eVar 2) (eVar 4)) aNil)) (aCons (eTup (aCons (eC (.str "num")) (aCons (eVar 4) aNil))) (aCons (eVar 3) aNil))))))
      (l.map fun i : Nat => D.int (i : Int)) [some d0, some d1, some (.int c), some p.d, z] S = some (.nx [some d0, some d1, some (.int c), some (Pc.d p'), z'] S) ∧ wf p' [] ∧ Ok 0 0 [] p' ∧ cd p' ≤ cd p + l.length ∧ kn p' ≤ kn p + 2 * l.length
  | [], p, z, _, hw, ho => ⟨p, z, by simp [varK_1, eVar_u, eC_u, aNil_u, acK1_1, acK2_1, aCons_u, tupK_1, eTup_u, ldK_1, lDisp_u, eLK_1, eLMK_1, eL_u, eLM_u, eDiK_1, eDMK_1, eDi_u, eDM_u, opK1_1, opK2_1, opK3_1, eOp_u, negK_1, eNeg_u, slK1_1, slK2_1, slK3_1, slK4_1, ptSK_1, ptN_u, ptS_u, eSlice_u, callK_1, eCall_u, biK_1, blK_1, blK2_1, eBi_u, lBi_u, isiK_1, isiK2_1, eIsi_u, revK_1, revK2_1, lRev_u, andEK_1, andEK_2, orEK_1, orEK_2, notEK_1, orSK_1, ifEK_1, ifEK_2, tofK_1, eAnd_u, eOr_u, eNot_u, eOrS_u, eIf_u, tOf_u, chK1_1, chK2_1, chK3_1, chK3_2, eChain_u, tandK_1, tandK_2, torK_1, torK_2, tnotK_1, tTrue_u, tfAnd_u, tfOr_u, tfNot_u, lcK1_1, lcK2_1, lcK3_1, lcK3_2, lcK4_1, lcK5_1, lcD_n, lcD_c, aLc_u, wipeD_n, wipeD_c, gdName_u, gsK_1, gsNil_u, gdTup_u, gsCons_u, iseqK_1, iseqK2_1, itupK_1, istrK_1, irng1K_1, irng2K_1, seqP_1, seqP_2, iSeq_u, iTupD_u, iStrD_u, iRange1_u, iRange2_u, m1K_1, m1K2_1, m0K_1, s1K_1, eMeth1_u, eMeth0_u, eS1_u, setK_1, asgK_1, asgK2_1, retK_1, expK_1, seqK_1, seqK_2, seqK_3, ifK_1, ifK_2, forK_1, forD_n, forK2_1, forK3_1, forK3_2, forK3_3, fnK_1, fnK_2, gcK_1, sNext_u, sBrk_u, stK_1, stK0_1, stK1_1, stK2_1, sSet_u, sAsg_u, sRet_u, sExp_u, sSeq_u, sIf_u, sFor_u, forD_c, fnD_u, gcFn_u, sSetIx_u, dAdd_i, dAdd_s, dAdd_t, dAdd_l, dSub_i, dCmp_i, dEq_s, dEq_i, dEq_b, dNe_s, dNe_i, dNe_b, dIx_t, dIx_l, dIx_c, dSlice_t, dSlice_l, dSlice_c, dSlice_s, bLen_t, bLen_l, bLen_s, bTup_t, bTup_l, blList_t, blList_l, bInt_i, bInt_t, bInt_f, bMin_i, dIsN_1, dIsN_2, seqL_l, seqL_c, dMod_i, dDiv_i, dMul_r, dMul_l, bLen_c, gc_same, pow12, dicS_d, dicO_1, keyO_s, keyO_i, dgK_1, dgK2_1, diK_1, diK2_f, diK2_t, valD_n, mergeD_n, mergeD_c, putD_n, ienK_1, ppNil_u, ppK_1, ppK2_1, ppK3_1, keysD_n, kdK_1, kdK2_1, ddK_1, ddK2_1, g2K_1, g2K1_1, g2K2_1, g2K3_1, g2K4_1, isDic_d, dpK_1, dpK1_1, dpK2_1, dpK3_1, dbK_1, dbK2_1, bdCopy_1, ddNew_u, dicS_r, dGet_u, dInK_u, valD_c, putD_c, iEnumD_u, ppCons_u, keysD_c, ddDisp_u, eGet2_u, sDput_u, ddCopy_u, List.map_cons, List.map_nil, List.length_cons, List.length_nil, List.cons_append, List.nil_append, List.append_nil, List.getElem?_cons_zero, List.getElem?_cons_succ, List.set_cons_zero, List.set_cons_succ, ofString_inj, ofString_beq], hw, ho, by simp, by simp⟩
  | i :: l, p, z, hi, hw, ho => by
    obtain ⟨a, ea, ha⟩ := mark_D (k := k) hk (c + i) S
    have hi0 := hi i List.mem_cons_self
    have hw' : wf (.plus a (.num i) p) [] := ⟨ha, ⟨by omega, by omega⟩, hw⟩
    obtain ⟨p', z', h1, h2, h3, h4, h5⟩ := piece_loop hk c S d0 d1 l (.plus a (.num i) p) (some (.int i)) (fun j hj => hi j (List.mem_cons_of_mem _ hj)) hw' ⟨trivial, ho⟩
    refine ⟨p', z', ?_, h2, h3, ?_, ?_⟩
    · rw [List.map_cons, forD_c, gdName_u, forK2_1]
      have : (sSet 3 (eTup (aCons (eC (.str "plus")) (aCons (eCall 1 (Fk k ._law_mark_by) (aCons (eOp dAdd (eVar 2) (eVar 4)) aNil)) (aCons (eTup (aCons (eC (.str "num")) (aCons (eVar 4) aNil))) (aCons (eVar 3) aNil)))))) [some d0, some d1, some (.int c), some p.d, some (.int i)] S = some (.nx [some d0, some d1, some (.int c), some (Pc.d (.plus a (.num i) p)), some (.int i)] S) := by
        simp [varK_1, eVar_u, eC_u, aNil_u, acK1_1, acK2_1, aCons_u, tupK_1, eTup_u, ldK_1, lDisp_u, eLK_1, eLMK_1, eL_u, eLM_u, eDiK_1, eDMK_1, eDi_u, eDM_u, opK1_1, opK2_1, opK3_1, eOp_u, negK_1, eNeg_u, slK1_1, slK2_1, slK3_1, slK4_1, ptSK_1, ptN_u, ptS_u, eSlice_u, callK_1, eCall_u, biK_1, blK_1, blK2_1, eBi_u, lBi_u, isiK_1, isiK2_1, eIsi_u, revK_1, revK2_1, lRev_u, andEK_1, andEK_2, orEK_1, orEK_2, notEK_1, orSK_1, ifEK_1, ifEK_2, tofK_1, eAnd_u, eOr_u, eNot_u, eOrS_u, eIf_u, tOf_u, chK1_1, chK2_1, chK3_1, chK3_2, eChain_u, tandK_1, tandK_2, torK_1, torK_2, tnotK_1, tTrue_u, tfAnd_u, tfOr_u, tfNot_u, lcK1_1, lcK2_1, lcK3_1, lcK3_2, lcK4_1, lcK5_1, lcD_n, lcD_c, aLc_u, wipeD_n, wipeD_c, gdName_u, gsK_1, gsNil_u, gdTup_u, gsCons_u, iseqK_1, iseqK2_1, itupK_1, istrK_1, irng1K_1, irng2K_1, seqP_1, seqP_2, iSeq_u, iTupD_u, iStrD_u, iRange1_u, iRange2_u, m1K_1, m1K2_1, m0K_1, s1K_1, eMeth1_u, eMeth0_u, eS1_u, setK_1, asgK_1, asgK2_1, retK_1, expK_1, seqK_1, seqK_2, seqK_3, ifK_1, ifK_2, forK_1, forD_n, forK2_1, forK3_1, forK3_2, forK3_3, fnK_1, fnK_2, gcK_1, sNext_u, sBrk_u, stK_1, stK0_1, stK1_1, stK2_1, sSet_u, sAsg_u, sRet_u, sExp_u, sSeq_u, sIf_u, sFor_u, forD_c, fnD_u, gcFn_u, sSetIx_u, dAdd_i, dAdd_s, dAdd_t, dAdd_l, dSub_i, dCmp_i, dEq_s, dEq_i, dEq_b, dNe_s, dNe_i, dNe_b, dIx_t, dIx_l, dIx_c, dSlice_t, dSlice_l, dSlice_c, dSlice_s, bLen_t, bLen_l, bLen_s, bTup_t, bTup_l, blList_t, blList_l, bInt_i, bInt_t, bInt_f, bMin_i, dIsN_1, dIsN_2, seqL_l, seqL_c, dMod_i, dDiv_i, dMul_r, dMul_l, bLen_c, gc_same, pow12, dicS_d, dicO_1, keyO_s, keyO_i, dgK_1, dgK2_1, diK_1, diK2_f, diK2_t, valD_n, mergeD_n, mergeD_c, putD_n, ienK_1, ppNil_u, ppK_1, ppK2_1, ppK3_1, keysD_n, kdK_1, kdK2_1, ddK_1, ddK2_1, g2K_1, g2K1_1, g2K2_1, g2K3_1, g2K4_1, isDic_d, dpK_1, dpK1_1, dpK2_1, dpK3_1, dbK_1, dbK2_1, bdCopy_1, ddNew_u, dicS_r, dGet_u, dInK_u, valD_c, putD_c, iEnumD_u, ppCons_u, keysD_c, ddDisp_u, eGet2_u, sDput_u, ddCopy_u, List.map_cons, List.map_nil, List.length_cons, List.length_nil, List.cons_append, List.nil_append, List.append_nil, List.getElem?_cons_zero, List.getElem?_cons_succ, List.set_cons_zero, List.set_cons_succ, ofString_inj, ofString_beq, ea, Pc.d]
      simp only [List.set_cons_succ, List.set_cons_zero]
      rw [this, forK3_1, h1]
    · simp only [cd, List.length_cons] at h4 ⊢
      have := cd_pos p
      omega
    · simp only [kn, List.length_cons] at h5 ⊢
      omega
theorem StS_new (S : List O) (s t : Int) : StS (S ++ [.lst [.int t]]) S.length s = S ++ [.lst [.int s]] := by simp [StS]
theorem okS_new {S : List O} (h : okS S) (s : Int) : okS (S ++ [.lst [.int s]]) := by
  unfold okS at *
  rw [List.all_append, Bool.and_eq_true]
  refine ⟨?_, by simp [okO, okDs, okD]⟩
  rw [List.all_eq_true] at h ⊢
  intro o ho
  exact okO_le (h o ho) (by simp)
theorem piece_D (ns : List Int) (S : List O) (ok : okS S) (first cell : Int) (hf : 0 ≤ first) : ∃ p, Fk 230 ._law_piece [.scr ns, .int first, .int cell] S = some (p.d, S) ∧ wf p [] ∧ Ok 0 0 [] p ∧ cd p ≤ 28 ∧ kn p ≤ 200 := by
  obtain ⟨p, s', eq, h1, hw, hcd, hkn⟩ := (made_all 229).1 ns (S ++ [.lst [.int first]]) S.length (1 + cell % 7) first [] (by simp) (okS_new ok first) hf (by omega) (by simp) (by simp; omega) (by omega)
  have ho : Ok 0 0 [] p := wf_ok hw (by omega)
  rw [StS_new, StS_new] at eq
  simp only [sD, List.map_nil] at eq
  -- in a round or not
  have rd : ∃ q, b__law_piece (Fk 229) [some (.scr ns), some (.int first), some (.int cell), none, none] S = b__law_piece_t2 (Fk 229) [some (.scr ns), some (.int first), some (.int cell), some (Pc.d q), none] (S ++ [.lst [.int s']]) ∧ wf q [] ∧ Ok 0 0 [] q ∧ cd q ≤ cd p + 1 ∧ kn q ≤ kn p + 1 := by
    by_cases h : cell / 7 % 4 > 0
    · exact ⟨.rnd p, by simp [b__law_piece, b__law_piece_t1, varK_1, eVar_u, eC_u, aNil_u, acK1_1, acK2_1, aCons_u, tupK_1, eTup_u, ldK_1, lDisp_u, eLK_1, eLMK_1, eL_u, eLM_u, eDiK_1, eDMK_1, eDi_u, eDM_u, opK1_1, opK2_1, opK3_1, eOp_u, negK_1, eNeg_u, slK1_1, slK2_1, slK3_1, slK4_1, ptSK_1, ptN_u, ptS_u, eSlice_u, callK_1, eCall_u, biK_1, blK_1, blK2_1, eBi_u, lBi_u, isiK_1, isiK2_1, eIsi_u, revK_1, revK2_1, lRev_u, andEK_1, andEK_2, orEK_1, orEK_2, notEK_1, orSK_1, ifEK_1, ifEK_2, tofK_1, eAnd_u, eOr_u, eNot_u, eOrS_u, eIf_u, tOf_u, chK1_1, chK2_1, chK3_1, chK3_2, eChain_u, tandK_1, tandK_2, torK_1, torK_2, tnotK_1, tTrue_u, tfAnd_u, tfOr_u, tfNot_u, lcK1_1, lcK2_1, lcK3_1, lcK3_2, lcK4_1, lcK5_1, lcD_n, lcD_c, aLc_u, wipeD_n, wipeD_c, gdName_u, gsK_1, gsNil_u, gdTup_u, gsCons_u, iseqK_1, iseqK2_1, itupK_1, istrK_1, irng1K_1, irng2K_1, seqP_1, seqP_2, iSeq_u, iTupD_u, iStrD_u, iRange1_u, iRange2_u, m1K_1, m1K2_1, m0K_1, s1K_1, eMeth1_u, eMeth0_u, eS1_u, setK_1, asgK_1, asgK2_1, retK_1, expK_1, seqK_1, seqK_2, seqK_3, ifK_1, ifK_2, forK_1, forD_n, forK2_1, forK3_1, forK3_2, forK3_3, fnK_1, fnK_2, gcK_1, sNext_u, sBrk_u, stK_1, stK0_1, stK1_1, stK2_1, sSet_u, sAsg_u, sRet_u, sExp_u, sSeq_u, sIf_u, sFor_u, forD_c, fnD_u, gcFn_u, sSetIx_u, dAdd_i, dAdd_s, dAdd_t, dAdd_l, dSub_i, dCmp_i, dEq_s, dEq_i, dEq_b, dNe_s, dNe_i, dNe_b, dIx_t, dIx_l, dIx_c, dSlice_t, dSlice_l, dSlice_c, dSlice_s, bLen_t, bLen_l, bLen_s, bTup_t, bTup_l, blList_t, blList_l, bInt_i, bInt_t, bInt_f, bMin_i, dIsN_1, dIsN_2, seqL_l, seqL_c, dMod_i, dDiv_i, dMul_r, dMul_l, bLen_c, gc_same, pow12, dicS_d, dicO_1, keyO_s, keyO_i, dgK_1, dgK2_1, diK_1, diK2_f, diK2_t, valD_n, mergeD_n, mergeD_c, putD_n, ienK_1, ppNil_u, ppK_1, ppK2_1, ppK3_1, keysD_n, kdK_1, kdK2_1, ddK_1, ddK2_1, g2K_1, g2K1_1, g2K2_1, g2K3_1, g2K4_1, isDic_d, dpK_1, dpK1_1, dpK2_1, dpK3_1, dbK_1, dbK2_1, bdCopy_1, ddNew_u, dicS_r, dGet_u, dInK_u, valD_c, putD_c, iEnumD_u, ppCons_u, keysD_c, ddDisp_u, eGet2_u, sDput_u, ddCopy_u, List.map_cons, List.map_nil, List.length_cons, List.length_nil, List.cons_append, List.nil_append, List.append_nil, List.getElem?_cons_zero, List.getElem?_cons_succ, List.set_cons_zero, List.set_cons_succ, ofString_inj, ofString_beq, eq, h, Pc.d], hw, ho, by simp [cd], by simp [kn]⟩
    · exact ⟨p, by simp [b__law_piece, b__law_piece_t1, varK_1, eVar_u, eC_u, aNil_u, acK1_1, acK2_1, aCons_u, tupK_1, eTup_u, ldK_1, lDisp_u, eLK_1, eLMK_1, eL_u, eLM_u, eDiK_1, eDMK_1, eDi_u, eDM_u, opK1_1, opK2_1, opK3_1, eOp_u, negK_1, eNeg_u, slK1_1, slK2_1, slK3_1, slK4_1, ptSK_1, ptN_u, ptS_u, eSlice_u, callK_1, eCall_u, biK_1, blK_1, blK2_1, eBi_u, lBi_u, isiK_1, isiK2_1, eIsi_u, revK_1, revK2_1, lRev_u, andEK_1, andEK_2, orEK_1, orEK_2, notEK_1, orSK_1, ifEK_1, ifEK_2, tofK_1, eAnd_u, eOr_u, eNot_u, eOrS_u, eIf_u, tOf_u, chK1_1, chK2_1, chK3_1, chK3_2, eChain_u, tandK_1, tandK_2, torK_1, torK_2, tnotK_1, tTrue_u, tfAnd_u, tfOr_u, tfNot_u, lcK1_1, lcK2_1, lcK3_1, lcK3_2, lcK4_1, lcK5_1, lcD_n, lcD_c, aLc_u, wipeD_n, wipeD_c, gdName_u, gsK_1, gsNil_u, gdTup_u, gsCons_u, iseqK_1, iseqK2_1, itupK_1, istrK_1, irng1K_1, irng2K_1, seqP_1, seqP_2, iSeq_u, iTupD_u, iStrD_u, iRange1_u, iRange2_u, m1K_1, m1K2_1, m0K_1, s1K_1, eMeth1_u, eMeth0_u, eS1_u, setK_1, asgK_1, asgK2_1, retK_1, expK_1, seqK_1, seqK_2, seqK_3, ifK_1, ifK_2, forK_1, forD_n, forK2_1, forK3_1, forK3_2, forK3_3, fnK_1, fnK_2, gcK_1, sNext_u, sBrk_u, stK_1, stK0_1, stK1_1, stK2_1, sSet_u, sAsg_u, sRet_u, sExp_u, sSeq_u, sIf_u, sFor_u, forD_c, fnD_u, gcFn_u, sSetIx_u, dAdd_i, dAdd_s, dAdd_t, dAdd_l, dSub_i, dCmp_i, dEq_s, dEq_i, dEq_b, dNe_s, dNe_i, dNe_b, dIx_t, dIx_l, dIx_c, dSlice_t, dSlice_l, dSlice_c, dSlice_s, bLen_t, bLen_l, bLen_s, bTup_t, bTup_l, blList_t, blList_l, bInt_i, bInt_t, bInt_f, bMin_i, dIsN_1, dIsN_2, seqL_l, seqL_c, dMod_i, dDiv_i, dMul_r, dMul_l, bLen_c, gc_same, pow12, dicS_d, dicO_1, keyO_s, keyO_i, dgK_1, dgK2_1, diK_1, diK2_f, diK2_t, valD_n, mergeD_n, mergeD_c, putD_n, ienK_1, ppNil_u, ppK_1, ppK2_1, ppK3_1, keysD_n, kdK_1, kdK2_1, ddK_1, ddK2_1, g2K_1, g2K1_1, g2K2_1, g2K3_1, g2K4_1, isDic_d, dpK_1, dpK1_1, dpK2_1, dpK3_1, dbK_1, dbK2_1, bdCopy_1, ddNew_u, dicS_r, dGet_u, dInK_u, valD_c, putD_c, iEnumD_u, ppCons_u, keysD_c, ddDisp_u, eGet2_u, sDput_u, ddCopy_u, List.map_cons, List.map_nil, List.length_cons, List.length_nil, List.cons_append, List.nil_append, List.append_nil, List.getElem?_cons_zero, List.getElem?_cons_succ, List.set_cons_zero, List.set_cons_succ, ofString_inj, ofString_beq, eq, h], hw, ho, by omega, by omega⟩
  obtain ⟨q, st1, qw, qo, qc, qk⟩ := rd
  have hm : ∃ m : Nat, dIx (.lst [.int 0, .int 0, .int 1, .int 18]) (.int (cell / 28 % 4)) (S ++ [.lst [.int s']]) = some (.int m) ∧ m ≤ 18 := by
    have : cell / 28 % 4 = 0 ∨ cell / 28 % 4 = 1 ∨ cell / 28 % 4 = 2 ∨ cell / 28 % 4 = 3 := by omega
    rcases this with h | h | h | h <;> rw [h]
    · exact ⟨0, by simp [dIx, seqL, atI, ixN], by decide⟩
    · exact ⟨0, by simp [dIx, seqL, atI, ixN], by decide⟩
    · exact ⟨1, by simp [dIx, seqL, atI, ixN], by decide⟩
    · exact ⟨18, by simp [dIx, seqL, atI, ixN], by decide⟩
  obtain ⟨m, em, hm⟩ := hm
  obtain ⟨r, z', lp, rw', ro, rc, rk⟩ := piece_loop (k := 229) (by decide) cell (S ++ [.lst [.int s']]) (.scr ns) (.int first) (List.range m) q none (fun i hi => by have := List.mem_range.mp hi; omega) qw qo
  rw [List.length_range] at rc rk
  refine ⟨r, ?_, rw', ro, by omega, by omega⟩
  have el : rangeD 0 (m : Int) = (List.range m).map fun i : Nat => D.int (i : Int) := by
    unfold rangeD
    have : ((m : Int) - 0).toNat = m := by omega
    rw [this]
    congr 1
    funext i
    simp
  have hm2 : (m : Int) < 4611686018427387904 := by omega
  have hm3 : (-4611686018427387904 : Int) ≤ m := by omega
  simp only [dIx_l] at em
  have st2 : b__law_piece_t2 (Fk 229) [some (.scr ns), some (.int first), some (.int cell), some (Pc.d q), none] (S ++ [.lst [.int s']]) = some (.rt r.d (S ++ [.lst [.int s']])) := by
    simp [b__law_piece_t2, b__law_piece_t3, varK_1, eVar_u, eC_u, aNil_u, acK1_1, acK2_1, aCons_u, tupK_1, eTup_u, ldK_1, lDisp_u, eLK_1, eLMK_1, eL_u, eLM_u, eDiK_1, eDMK_1, eDi_u, eDM_u, opK1_1, opK2_1, opK3_1, eOp_u, negK_1, eNeg_u, slK1_1, slK2_1, slK3_1, slK4_1, ptSK_1, ptN_u, ptS_u, eSlice_u, callK_1, eCall_u, biK_1, blK_1, blK2_1, eBi_u, lBi_u, isiK_1, isiK2_1, eIsi_u, revK_1, revK2_1, lRev_u, andEK_1, andEK_2, orEK_1, orEK_2, notEK_1, orSK_1, ifEK_1, ifEK_2, tofK_1, eAnd_u, eOr_u, eNot_u, eOrS_u, eIf_u, tOf_u, chK1_1, chK2_1, chK3_1, chK3_2, eChain_u, tandK_1, tandK_2, torK_1, torK_2, tnotK_1, tTrue_u, tfAnd_u, tfOr_u, tfNot_u, lcK1_1, lcK2_1, lcK3_1, lcK3_2, lcK4_1, lcK5_1, lcD_n, lcD_c, aLc_u, wipeD_n, wipeD_c, gdName_u, gsK_1, gsNil_u, gdTup_u, gsCons_u, iseqK_1, iseqK2_1, itupK_1, istrK_1, irng1K_1, irng2K_1, seqP_1, seqP_2, iSeq_u, iTupD_u, iStrD_u, iRange1_u, iRange2_u, m1K_1, m1K2_1, m0K_1, s1K_1, eMeth1_u, eMeth0_u, eS1_u, setK_1, asgK_1, asgK2_1, retK_1, expK_1, seqK_1, seqK_2, seqK_3, ifK_1, ifK_2, forK_1, forD_n, forK2_1, forK3_1, forK3_2, forK3_3, fnK_1, fnK_2, gcK_1, sNext_u, sBrk_u, stK_1, stK0_1, stK1_1, stK2_1, sSet_u, sAsg_u, sRet_u, sExp_u, sSeq_u, sIf_u, sFor_u, forD_c, fnD_u, gcFn_u, sSetIx_u, dAdd_i, dAdd_s, dAdd_t, dAdd_l, dSub_i, dCmp_i, dEq_s, dEq_i, dEq_b, dNe_s, dNe_i, dNe_b, dIx_t, dIx_l, dIx_c, dSlice_t, dSlice_l, dSlice_c, dSlice_s, bLen_t, bLen_l, bLen_s, bTup_t, bTup_l, blList_t, blList_l, bInt_i, bInt_t, bInt_f, bMin_i, dIsN_1, dIsN_2, seqL_l, seqL_c, dMod_i, dDiv_i, dMul_r, dMul_l, bLen_c, gc_same, pow12, dicS_d, dicO_1, keyO_s, keyO_i, dgK_1, dgK2_1, diK_1, diK2_f, diK2_t, valD_n, mergeD_n, mergeD_c, putD_n, ienK_1, ppNil_u, ppK_1, ppK2_1, ppK3_1, keysD_n, kdK_1, kdK2_1, ddK_1, ddK2_1, g2K_1, g2K1_1, g2K2_1, g2K3_1, g2K4_1, isDic_d, dpK_1, dpK1_1, dpK2_1, dpK3_1, dbK_1, dbK2_1, bdCopy_1, ddNew_u, dicS_r, dGet_u, dInK_u, valD_c, putD_c, iEnumD_u, ppCons_u, keysD_c, ddDisp_u, eGet2_u, sDput_u, ddCopy_u, List.map_cons, List.map_nil, List.length_cons, List.length_nil, List.cons_append, List.nil_append, List.append_nil, List.getElem?_cons_zero, List.getElem?_cons_succ, List.set_cons_zero, List.set_cons_succ, ofString_inj, ofString_beq, em, hm2, hm3, el, lp]
  show gcFn (fnD 5 (b__law_piece (Fk 229))) _ _ = _
  rw [gcFn_u, fnD_u]
  simp only [List.map_cons, List.map_nil, List.length_cons, List.length_nil, List.cons_append, List.nil_append]
  rw [show List.replicate (5 - (0 + 1 + 1 + 1)) none = ([none, none] : Sl) from rfl, st1, st2, fnK_1, gcK_1, gc_new ok (okD_pc _ _) (pc_noref r)]
theorem nx_x : nmOk "x" := by
  refine ⟨by decide +kernel, by decide +kernel, fun c hc => ?_⟩
  have q1 : ("x" : Str).cps.toList = [120] := by decide +kernel
  rw [q1] at hc
  have : c = 120 := by simpa using hc
  omega
theorem eqv_two (L : Nat) (S : List O) (w : Str) (p : Pc) (hw : PyData.strOk w = true) (h1 : (py p.d).canLay0 = true) (h2 : fd p + 1 ≤ L) : dEqv L S (.tup [.str w, p.d]) (.tup [.str w, p.d]) = some true := by
  have e : dEqv L S (.tup [.str w, p.d]) (.tup [.str w, p.d]) = if (py (.tup [.str w, p.d])).canLay0 = true ∧ (py (.tup [.str w, p.d])).canLay0 = true ∧ min (py (.tup [.str w, p.d])).depth (py (.tup [.str w, p.d])).depth ≤ L then some (PyData.eqv (py (.tup [.str w, p.d])) (py (.tup [.str w, p.d]))) else none := rfl
  have c : (py (.tup [.str w, p.d])).canLay0 = true := by simp [py, pyL, PyData.canLay0, PyData.canLayAll0, hw, h1]
  have d : (py (.tup [.str w, p.d])).depth = fd p + 1 := by simp [py, pyL, PyData.depth, PyData.depthAll, fd_is]
  rw [e, if_pos ⟨c, c, by omega⟩, SeqAt.eqv_refl _ c]
theorem eqv_mark (L : Nat) (S : List O) (w : Str) (a : Int) (hw : PyData.strOk w = true) (h2 : 1 ≤ L) : dEqv L S (.tup [.str w, .int a]) (.tup [.str w, .int a]) = some true := by
  have e : dEqv L S (.tup [.str w, .int a]) (.tup [.str w, .int a]) = if (py (.tup [.str w, .int a])).canLay0 = true ∧ (py (.tup [.str w, .int a])).canLay0 = true ∧ min (py (.tup [.str w, .int a])).depth (py (.tup [.str w, .int a])).depth ≤ L then some (PyData.eqv (py (.tup [.str w, .int a])) (py (.tup [.str w, .int a]))) else none := rfl
  have c : (py (.tup [.str w, .int a])).canLay0 = true := by simp [py, pyL, PyData.canLay0, PyData.canLayAll0, hw]
  have d : (py (.tup [.str w, .int a])).depth = 1 := by simp [py, pyL, PyData.depth, PyData.depthAll]
  rw [e, if_pos ⟨c, c, by omega⟩, SeqAt.eqv_refl _ c]
theorem ne_stp (L : Nat) (S : List O) {M V D : Nat} {p : Pc} {s : Stp} (hp : Gd M V D p) (hs : ∀ q, s = .step q → fd q + 1 ≤ L ∧ (py q.d).canLay0 = true) (h3 : fd p + 1 ≤ L) : dNe L (s.d p) (s.d p) S = some (.bl false) := by
  cases s with
  | val => unfold dNe; simp only [Stp.d]; rw [eqv_two L S _ p (by decide +kernel) hp.ok.lay h3]; rfl
  | stuck a => unfold dNe; simp only [Stp.d]; rw [eqv_mark L S _ a (by decide +kernel) (by omega)]; rfl
  | step q =>
    obtain ⟨h1, h2⟩ := hs q rfl
    unfold dNe; simp only [Stp.d]; rw [eqv_two L S _ q (by decide +kernel) h2 h1]; rfl
/-- what holds of a piece behind n steps -/
def At (M0 V0 D0 n : Nat) (p : Pc) : Prop := ∃ j, j ≤ n ∧ Gd (M0 + 10 * j) (V0 + 33 * n) (D0 + 10 * j + (n - j) * (M0 + 31 + 10 * j)) p
theorem At.step {M0 V0 D0 n : Nat} {p q : Pc} (h3 : 3 ≤ V0) (h : At M0 V0 D0 n p) (hs : step p = .step q) : At M0 V0 D0 (n + 1) q := by
  obtain ⟨j, hj, g⟩ := h
  obtain ⟨i, hi⟩ : ∃ i, n = j + i := ⟨n - j, by omega⟩
  subst hi
  have e0 : j + i - j = i := by omega
  rw [e0] at g
  rcases g.step (by omega) hs with g | g
  · refine ⟨j + 1, by omega, g.mono (by omega) (by omega) ?_⟩
    have e1 : j + i + 1 - (j + 1) = i := by omega
    rw [e1]
    have : i * (M0 + 31 + 10 * j) ≤ i * (M0 + 31 + 10 * (j + 1)) := Nat.mul_le_mul_left _ (by omega)
    omega
  · refine ⟨j, by omega, g.mono (by omega) (by omega) ?_⟩
    have e1 : j + i + 1 - j = i + 1 := by omega
    rw [e1, Nat.succ_mul i (M0 + 31 + 10 * j)]
    omega
theorem At.more {M0 V0 D0 n : Nat} {p : Pc} (h : At M0 V0 D0 n p) : At M0 V0 D0 (n + 1) p := by
  obtain ⟨j, hj, g⟩ := h
  refine ⟨j, by omega, g.mono (by omega) (by omega) ?_⟩
  have : (n - j) * (M0 + 31 + 10 * j) ≤ (n + 1 - j) * (M0 + 31 + 10 * j) := Nat.mul_le_mul_right _ (by omega)
  omega
/-- what stepping wants to know of a piece -/
theorem Gd.facts {M V D : Nat} {p : Pc} (g : Gd M V D p) (hD : D < 10000000) : (frs p).length < 10000000 ∧ (∀ x, hd p ≠ .name x) ∧ bdc (hd p) ≤ 10 := by
  obtain ⟨d1, d2, d3⟩ := down p g.ok g.sp
  refine ⟨by have := frs_cd p; have := g.cd; omega, fun x e => ?_, ?_⟩
  · rw [e] at d2; exact absurd d2.1 (by simp)
  · cases h : hd p with
    | take a x b => rw [h] at d2; exact d2.2.1
    | call a f v =>
      rw [h] at d2
      cases f with
      | shut c x b => exact d2.1.2.1
      | _ => simp [bdc]
    | _ => simp [bdc]
theorem D_bound {n j : Nat} (hn : n ≤ 25) (hj : j ≤ n) : 28 + 10 * j + (n - j) * (35 + 31 + 10 * j) ≤ 2900 := by
  obtain ⟨i, rfl⟩ : ∃ i, n = j + i := ⟨n - j, by omega⟩
  have e : j + i - j = i := by omega
  rw [e]
  have : ∀ j ≤ 25, ∀ i ≤ 25, j + i ≤ 25 → 28 + 10 * j + i * (35 + 31 + 10 * j) ≤ 2900 := by decide +kernel
  exact this j (by omega) i (by omega) (by omega)
theorem loop03 (S : List O) (ok : okS S) (z0 z1 z4 z5 : Option D) : ∀ (l : List Int) (n : Nat) (p : Pc) (z3 z6 z7 z8 : Option D), n + l.length ≤ 24 → At 35 40 28 n p →
    ∃ z2' z3' z6' z7' z8', forD (gdName 3) (sSeq (sAsg (eCall 1 (Fk 230 ._law_step) (aCons (eVar 2) aNil)) (gdTup 2 (gsCons (gdName 6) (gsCons (gdName 7) gsNil))))
      (sSeq (sSet 8 (eCall 1 (Fk 230 .stepped) (aCons (eVar 2) aNil)))
      (sSeq (sIf (tfOr (tfNot (tOf (eIsi "tuple" (eVar 8)))) (tOf (eOp (dNe 3800) (eVar 8) (eTup (aCons (eVar 6) (aCons (eVar 7) aNil)))))) (sRet (eC (.bl false))) sNext)
      (sIf (tOf (eOp (dEq 3800) (eVar 6) (eC (.str "step")))) (sSet 2 (eVar 7)) sNext))))
      (l.map D.int) [z0, z1, some p.d, z3, z4, z5, z6, z7, z8] S = some (.nx [z0, z1, z2', z3', z4, z5, z6', z7', z8'] S)
  | [], n, p, z3, z6, z7, z8, _, _ => ⟨_, _, _, _, _, by simp [varK_1, eVar_u, eC_u, aNil_u, acK1_1, acK2_1, aCons_u, tupK_1, eTup_u, ldK_1, lDisp_u, eLK_1, eLMK_1, eL_u, eLM_u, eDiK_1, eDMK_1, eDi_u, eDM_u, opK1_1, opK2_1, opK3_1, eOp_u, negK_1, eNeg_u, slK1_1, slK2_1, slK3_1, slK4_1, ptSK_1, ptN_u, ptS_u, eSlice_u, callK_1, eCall_u, biK_1, blK_1, blK2_1, eBi_u, lBi_u, isiK_1, isiK2_1, eIsi_u, revK_1, revK2_1, lRev_u, andEK_1, andEK_2, orEK_1, orEK_2, notEK_1, orSK_1, ifEK_1, ifEK_2, tofK_1, eAnd_u, eOr_u, eNot_u, eOrS_u, eIf_u, tOf_u, chK1_1, chK2_1, chK3_1, chK3_2, eChain_u, tandK_1, tandK_2, torK_1, torK_2, tnotK_1, tTrue_u, tfAnd_u, tfOr_u, tfNot_u, lcK1_1, lcK2_1, lcK3_1, lcK3_2, lcK4_1, lcK5_1, lcD_n, lcD_c, aLc_u, wipeD_n, wipeD_c, gdName_u, gsK_1, gsNil_u, gdTup_u, gsCons_u, iseqK_1, iseqK2_1, itupK_1, istrK_1, irng1K_1, irng2K_1, seqP_1, seqP_2, iSeq_u, iTupD_u, iStrD_u, iRange1_u, iRange2_u, m1K_1, m1K2_1, m0K_1, s1K_1, eMeth1_u, eMeth0_u, eS1_u, setK_1, asgK_1, asgK2_1, retK_1, expK_1, seqK_1, seqK_2, seqK_3, ifK_1, ifK_2, forK_1, forD_n, forK2_1, forK3_1, forK3_2, forK3_3, fnK_1, fnK_2, gcK_1, sNext_u, sBrk_u, stK_1, stK0_1, stK1_1, stK2_1, sSet_u, sAsg_u, sRet_u, sExp_u, sSeq_u, sIf_u, sFor_u, forD_c, fnD_u, gcFn_u, sSetIx_u, dAdd_i, dAdd_s, dAdd_t, dAdd_l, dSub_i, dCmp_i, dEq_s, dEq_i, dEq_b, dNe_s, dNe_i, dNe_b, dIx_t, dIx_l, dIx_c, dSlice_t, dSlice_l, dSlice_c, dSlice_s, bLen_t, bLen_l, bLen_s, bTup_t, bTup_l, blList_t, blList_l, bInt_i, bInt_t, bInt_f, bMin_i, dIsN_1, dIsN_2, seqL_l, seqL_c, dMod_i, dDiv_i, dMul_r, dMul_l, bLen_c, gc_same, pow12, dicS_d, dicO_1, keyO_s, keyO_i, dgK_1, dgK2_1, diK_1, diK2_f, diK2_t, valD_n, mergeD_n, mergeD_c, putD_n, ienK_1, ppNil_u, ppK_1, ppK2_1, ppK3_1, keysD_n, kdK_1, kdK2_1, ddK_1, ddK2_1, g2K_1, g2K1_1, g2K2_1, g2K3_1, g2K4_1, isDic_d, dpK_1, dpK1_1, dpK2_1, dpK3_1, dbK_1, dbK2_1, bdCopy_1, ddNew_u, dicS_r, dGet_u, dInK_u, valD_c, putD_c, iEnumD_u, ppCons_u, keysD_c, ddDisp_u, eGet2_u, sDput_u, ddCopy_u, List.map_cons, List.map_nil, List.length_cons, List.length_nil, List.cons_append, List.nil_append, List.append_nil, List.getElem?_cons_zero, List.getElem?_cons_succ, List.set_cons_zero, List.set_cons_succ, ofString_inj, ofString_beq]; exact ⟨rfl, rfl, rfl, rfl, rfl⟩⟩
  | i :: l, n, p, z3, z6, z7, z8, hl, ha => by
    simp only [List.length_cons] at hl
    obtain ⟨j, hj, g⟩ := ha
    have hD := D_bound (n := n) (j := j) (by omega) hj
    have g' : Gd (35 + 10 * j) (40 + 33 * n) 2900 p := g.mono (Nat.le_refl _) (Nat.le_refl _) hD
    obtain ⟨f1, f2, f3⟩ := g'.facts (by omega)
    have e1 := lstep_D (k := 230) p S ok f1 f2 (by omega)
    have e2 := stepped_D (k := 230) p S ok f1 f2 (by omega)
    have f4 : fd p + 1 ≤ 3800 := by have := g'.ok.fd (by omega); have := g'.cd; omega
    have nx : ∀ q, step p = .step q → At 35 40 28 (n + 1) q := fun q hq => At.step (by omega) ⟨j, hj, g⟩ hq
    have f5 : ∀ q, step p = .step q → fd q + 1 ≤ 3800 ∧ (py q.d).canLay0 = true := fun q hq => by
      obtain ⟨j', hj', gq⟩ := nx q hq
      have hD' := D_bound (n := n + 1) (j := j') (by omega) hj'
      have := gq.ok.fd (by omega); have := gq.cd
      exact ⟨by omega, gq.ok.lay⟩
    have ne := ne_stp 3800 S (s := step p) g' f5 f4
    have mr : At 35 40 28 (n + 1) p := At.more ⟨j, hj, g⟩
    cases hs : step p with
    | val =>
      obtain ⟨a2, a3, a6, a7, a8, ih⟩ := loop03 S ok z0 z1 z4 z5 l (n + 1) p (some (.int i)) (some (.str "value")) (some p.d) (some (.tup [.str "value", p.d])) (by omega) mr
      refine ⟨a2, a3, a6, a7, a8, ?_⟩
      rw [hs] at e1 e2 ne
      simp only [Stp.d] at e1 e2 ne
      simp [varK_1, eVar_u, eC_u, aNil_u, acK1_1, acK2_1, aCons_u, tupK_1, eTup_u, ldK_1, lDisp_u, eLK_1, eLMK_1, eL_u, eLM_u, eDiK_1, eDMK_1, eDi_u, eDM_u, opK1_1, opK2_1, opK3_1, eOp_u, negK_1, eNeg_u, slK1_1, slK2_1, slK3_1, slK4_1, ptSK_1, ptN_u, ptS_u, eSlice_u, callK_1, eCall_u, biK_1, blK_1, blK2_1, eBi_u, lBi_u, isiK_1, isiK2_1, eIsi_u, revK_1, revK2_1, lRev_u, andEK_1, andEK_2, orEK_1, orEK_2, notEK_1, orSK_1, ifEK_1, ifEK_2, tofK_1, eAnd_u, eOr_u, eNot_u, eOrS_u, eIf_u, tOf_u, chK1_1, chK2_1, chK3_1, chK3_2, eChain_u, tandK_1, tandK_2, torK_1, torK_2, tnotK_1, tTrue_u, tfAnd_u, tfOr_u, tfNot_u, lcK1_1, lcK2_1, lcK3_1, lcK3_2, lcK4_1, lcK5_1, lcD_n, lcD_c, aLc_u, wipeD_n, wipeD_c, gdName_u, gsK_1, gsNil_u, gdTup_u, gsCons_u, iseqK_1, iseqK2_1, itupK_1, istrK_1, irng1K_1, irng2K_1, seqP_1, seqP_2, iSeq_u, iTupD_u, iStrD_u, iRange1_u, iRange2_u, m1K_1, m1K2_1, m0K_1, s1K_1, eMeth1_u, eMeth0_u, eS1_u, setK_1, asgK_1, asgK2_1, retK_1, expK_1, seqK_1, seqK_2, seqK_3, ifK_1, ifK_2, forK_1, forD_n, forK2_1, forK3_1, forK3_2, forK3_3, fnK_1, fnK_2, gcK_1, sNext_u, sBrk_u, stK_1, stK0_1, stK1_1, stK2_1, sSet_u, sAsg_u, sRet_u, sExp_u, sSeq_u, sIf_u, sFor_u, forD_c, fnD_u, gcFn_u, sSetIx_u, dAdd_i, dAdd_s, dAdd_t, dAdd_l, dSub_i, dCmp_i, dEq_s, dEq_i, dEq_b, dNe_s, dNe_i, dNe_b, dIx_t, dIx_l, dIx_c, dSlice_t, dSlice_l, dSlice_c, dSlice_s, bLen_t, bLen_l, bLen_s, bTup_t, bTup_l, blList_t, blList_l, bInt_i, bInt_t, bInt_f, bMin_i, dIsN_1, dIsN_2, seqL_l, seqL_c, dMod_i, dDiv_i, dMul_r, dMul_l, bLen_c, gc_same, pow12, dicS_d, dicO_1, keyO_s, keyO_i, dgK_1, dgK2_1, diK_1, diK2_f, diK2_t, valD_n, mergeD_n, mergeD_c, putD_n, ienK_1, ppNil_u, ppK_1, ppK2_1, ppK3_1, keysD_n, kdK_1, kdK2_1, ddK_1, ddK2_1, g2K_1, g2K1_1, g2K2_1, g2K3_1, g2K4_1, isDic_d, dpK_1, dpK1_1, dpK2_1, dpK3_1, dbK_1, dbK2_1, bdCopy_1, ddNew_u, dicS_r, dGet_u, dInK_u, valD_c, putD_c, iEnumD_u, ppCons_u, keysD_c, ddDisp_u, eGet2_u, sDput_u, ddCopy_u, List.map_cons, List.map_nil, List.length_cons, List.length_nil, List.cons_append, List.nil_append, List.append_nil, List.getElem?_cons_zero, List.getElem?_cons_succ, List.set_cons_zero, List.set_cons_succ, ofString_inj, ofString_beq, e1, e2, ne, isD, tyD, gdTup, gsCons, gsNil, gdName, ih]
    | stuck a =>
      obtain ⟨a2, a3, a6, a7, a8, ih⟩ := loop03 S ok z0 z1 z4 z5 l (n + 1) p (some (.int i)) (some (.str "stuck")) (some (.int a)) (some (.tup [.str "stuck", .int a])) (by omega) mr
      refine ⟨a2, a3, a6, a7, a8, ?_⟩
      rw [hs] at e1 e2 ne
      simp only [Stp.d] at e1 e2 ne
      simp [varK_1, eVar_u, eC_u, aNil_u, acK1_1, acK2_1, aCons_u, tupK_1, eTup_u, ldK_1, lDisp_u, eLK_1, eLMK_1, eL_u, eLM_u, eDiK_1, eDMK_1, eDi_u, eDM_u, opK1_1, opK2_1, opK3_1, eOp_u, negK_1, eNeg_u, slK1_1, slK2_1, slK3_1, slK4_1, ptSK_1, ptN_u, ptS_u, eSlice_u, callK_1, eCall_u, biK_1, blK_1, blK2_1, eBi_u, lBi_u, isiK_1, isiK2_1, eIsi_u, revK_1, revK2_1, lRev_u, andEK_1, andEK_2, orEK_1, orEK_2, notEK_1, orSK_1, ifEK_1, ifEK_2, tofK_1, eAnd_u, eOr_u, eNot_u, eOrS_u, eIf_u, tOf_u, chK1_1, chK2_1, chK3_1, chK3_2, eChain_u, tandK_1, tandK_2, torK_1, torK_2, tnotK_1, tTrue_u, tfAnd_u, tfOr_u, tfNot_u, lcK1_1, lcK2_1, lcK3_1, lcK3_2, lcK4_1, lcK5_1, lcD_n, lcD_c, aLc_u, wipeD_n, wipeD_c, gdName_u, gsK_1, gsNil_u, gdTup_u, gsCons_u, iseqK_1, iseqK2_1, itupK_1, istrK_1, irng1K_1, irng2K_1, seqP_1, seqP_2, iSeq_u, iTupD_u, iStrD_u, iRange1_u, iRange2_u, m1K_1, m1K2_1, m0K_1, s1K_1, eMeth1_u, eMeth0_u, eS1_u, setK_1, asgK_1, asgK2_1, retK_1, expK_1, seqK_1, seqK_2, seqK_3, ifK_1, ifK_2, forK_1, forD_n, forK2_1, forK3_1, forK3_2, forK3_3, fnK_1, fnK_2, gcK_1, sNext_u, sBrk_u, stK_1, stK0_1, stK1_1, stK2_1, sSet_u, sAsg_u, sRet_u, sExp_u, sSeq_u, sIf_u, sFor_u, forD_c, fnD_u, gcFn_u, sSetIx_u, dAdd_i, dAdd_s, dAdd_t, dAdd_l, dSub_i, dCmp_i, dEq_s, dEq_i, dEq_b, dNe_s, dNe_i, dNe_b, dIx_t, dIx_l, dIx_c, dSlice_t, dSlice_l, dSlice_c, dSlice_s, bLen_t, bLen_l, bLen_s, bTup_t, bTup_l, blList_t, blList_l, bInt_i, bInt_t, bInt_f, bMin_i, dIsN_1, dIsN_2, seqL_l, seqL_c, dMod_i, dDiv_i, dMul_r, dMul_l, bLen_c, gc_same, pow12, dicS_d, dicO_1, keyO_s, keyO_i, dgK_1, dgK2_1, diK_1, diK2_f, diK2_t, valD_n, mergeD_n, mergeD_c, putD_n, ienK_1, ppNil_u, ppK_1, ppK2_1, ppK3_1, keysD_n, kdK_1, kdK2_1, ddK_1, ddK2_1, g2K_1, g2K1_1, g2K2_1, g2K3_1, g2K4_1, isDic_d, dpK_1, dpK1_1, dpK2_1, dpK3_1, dbK_1, dbK2_1, bdCopy_1, ddNew_u, dicS_r, dGet_u, dInK_u, valD_c, putD_c, iEnumD_u, ppCons_u, keysD_c, ddDisp_u, eGet2_u, sDput_u, ddCopy_u, List.map_cons, List.map_nil, List.length_cons, List.length_nil, List.cons_append, List.nil_append, List.append_nil, List.getElem?_cons_zero, List.getElem?_cons_succ, List.set_cons_zero, List.set_cons_succ, ofString_inj, ofString_beq, e1, e2, ne, isD, tyD, gdTup, gsCons, gsNil, gdName, ih]
    | step q =>
      obtain ⟨a2, a3, a6, a7, a8, ih⟩ := loop03 S ok z0 z1 z4 z5 l (n + 1) q (some (.int i)) (some (.str "step")) (some q.d) (some (.tup [.str "step", q.d])) (by omega) (nx q hs)
      refine ⟨a2, a3, a6, a7, a8, ?_⟩
      rw [hs] at e1 e2 ne
      simp only [Stp.d] at e1 e2 ne
      simp [varK_1, eVar_u, eC_u, aNil_u, acK1_1, acK2_1, aCons_u, tupK_1, eTup_u, ldK_1, lDisp_u, eLK_1, eLMK_1, eL_u, eLM_u, eDiK_1, eDMK_1, eDi_u, eDM_u, opK1_1, opK2_1, opK3_1, eOp_u, negK_1, eNeg_u, slK1_1, slK2_1, slK3_1, slK4_1, ptSK_1, ptN_u, ptS_u, eSlice_u, callK_1, eCall_u, biK_1, blK_1, blK2_1, eBi_u, lBi_u, isiK_1, isiK2_1, eIsi_u, revK_1, revK2_1, lRev_u, andEK_1, andEK_2, orEK_1, orEK_2, notEK_1, orSK_1, ifEK_1, ifEK_2, tofK_1, eAnd_u, eOr_u, eNot_u, eOrS_u, eIf_u, tOf_u, chK1_1, chK2_1, chK3_1, chK3_2, eChain_u, tandK_1, tandK_2, torK_1, torK_2, tnotK_1, tTrue_u, tfAnd_u, tfOr_u, tfNot_u, lcK1_1, lcK2_1, lcK3_1, lcK3_2, lcK4_1, lcK5_1, lcD_n, lcD_c, aLc_u, wipeD_n, wipeD_c, gdName_u, gsK_1, gsNil_u, gdTup_u, gsCons_u, iseqK_1, iseqK2_1, itupK_1, istrK_1, irng1K_1, irng2K_1, seqP_1, seqP_2, iSeq_u, iTupD_u, iStrD_u, iRange1_u, iRange2_u, m1K_1, m1K2_1, m0K_1, s1K_1, eMeth1_u, eMeth0_u, eS1_u, setK_1, asgK_1, asgK2_1, retK_1, expK_1, seqK_1, seqK_2, seqK_3, ifK_1, ifK_2, forK_1, forD_n, forK2_1, forK3_1, forK3_2, forK3_3, fnK_1, fnK_2, gcK_1, sNext_u, sBrk_u, stK_1, stK0_1, stK1_1, stK2_1, sSet_u, sAsg_u, sRet_u, sExp_u, sSeq_u, sIf_u, sFor_u, forD_c, fnD_u, gcFn_u, sSetIx_u, dAdd_i, dAdd_s, dAdd_t, dAdd_l, dSub_i, dCmp_i, dEq_s, dEq_i, dEq_b, dNe_s, dNe_i, dNe_b, dIx_t, dIx_l, dIx_c, dSlice_t, dSlice_l, dSlice_c, dSlice_s, bLen_t, bLen_l, bLen_s, bTup_t, bTup_l, blList_t, blList_l, bInt_i, bInt_t, bInt_f, bMin_i, dIsN_1, dIsN_2, seqL_l, seqL_c, dMod_i, dDiv_i, dMul_r, dMul_l, bLen_c, gc_same, pow12, dicS_d, dicO_1, keyO_s, keyO_i, dgK_1, dgK2_1, diK_1, diK2_f, diK2_t, valD_n, mergeD_n, mergeD_c, putD_n, ienK_1, ppNil_u, ppK_1, ppK2_1, ppK3_1, keysD_n, kdK_1, kdK2_1, ddK_1, ddK2_1, g2K_1, g2K1_1, g2K2_1, g2K3_1, g2K4_1, isDic_d, dpK_1, dpK1_1, dpK2_1, dpK3_1, dbK_1, dbK2_1, bdCopy_1, ddNew_u, dicS_r, dGet_u, dInK_u, valD_c, putD_c, iEnumD_u, ppCons_u, keysD_c, ddDisp_u, eGet2_u, sDput_u, ddCopy_u, List.map_cons, List.map_nil, List.length_cons, List.length_nil, List.cons_append, List.nil_append, List.append_nil, List.getElem?_cons_zero, List.getElem?_cons_succ, List.set_cons_zero, List.set_cons_succ, ofString_inj, ofString_beq, e1, e2, ne, isD, tyD, gdTup, gsCons, gsNil, gdName, ih]
theorem law_true (ns : List Int) (hns : ns.length ≤ 63) : ∃ S, fnD 9 (b_law (Fk 230)) [.scr ns] [] = some (.bl true, S) := by
  have m0 := mixed_b (cell ns 0)
  have ec0 := cell_D (k := 230) (by decide) ns 0 (by decide) []
  have em0 := mixed_D (k := 230) (by decide) (cell ns 0) []
  generalize mixed (cell ns 0) = c at em0 m0
  have ok0 : okS [] := by unfold okS; rfl
  obtain ⟨p, ep, hw, ho, hc, _⟩ := piece_D ns [] ok0 2 c (by decide)
  have ho3 : Ok 35 40 [] p := ho.mono (by omega) (by omega) fun _ y => y
  have ho4 : Ok 0 3 [] p := ho.mono (by omega) (by omega) fun _ y => y
  have hfd := ho4.fd (by omega)
  have g0 : At 35 40 28 0 p := ⟨0, by omega, ho3, sp_of (by omega), by have := ms_cd p; omega, by omega⟩
  have st1 : ∃ (q : Pc) (z4 z5 : Option D) (S : List O), b_law (Fk 230) [some (.scr ns), none, none, none, none, none, none, none, none] [] = b_law_t3 (Fk 230) [some (.scr ns), some (.int c), some q.d, none, z4, z5, none, none, none] S ∧ okS S ∧ At 35 40 28 0 q := by
    by_cases h : c / 112 % 6 = 1
    · have hm : ∃ m : Nat, c / 672 % 5 = (m : Int) ∧ m ≤ 4 := ⟨(c / 672 % 5).toNat, by omega, by omega⟩
      obtain ⟨m, em, hm⟩ := hm
      let F4 : List Fr := [.adder 3 (.num (c % 7)), .rnd, .given 4 (.shut 5 "x" (.name "x")), .rnd]
      have e4 : Fr.ds F4 = [.tup [.str "adder", .int 3, .tup [.str "num", .int (c % 7)]], .tup [.str "round"], .tup [.str "given", .int 4, .tup [.str "shut", .int 5, .str "x", .tup [.str "name", .str "x"]]], .tup [.str "round"]] := by
        simp [F4, Fr.ds, Fr.d, Pc.d]
      have e5 : (Fr.ds F4).take m ++ [.tup [.str "picker", .int 7, p.d, .tup [.str "num", .int 2]]] = Fr.ds (F4.take m ++ [.picker 7 p (.num 2)]) := by
        rw [ds_take, ds_app]; rfl
      have okF : ∀ f ∈ F4.take m ++ [.picker 7 p (.num 2)], OkR 35 40 f := by
        intro f hf
        rcases List.mem_append.mp hf with q | q
        · have := List.mem_of_mem_take q
          simp only [F4, List.mem_cons, List.mem_nil_iff, or_false] at this
          rcases this with r | r | r | r <;> subst r
          · exact ⟨by simp [cd], by simp [fd], trivial⟩
          · trivial
          · refine ⟨rfl, by simp [fd], nx_x, by simp [cd], by simp [fd], ?_⟩
            exact ⟨by simp, nx_x⟩
          · trivial
        · simp only [List.mem_singleton] at q
          subst q
          exact ⟨⟨by omega, by omega, ho3⟩, by simp [cd], by simp [fd], trivial⟩
      have okFF : ∀ l : List Fr, (∀ f ∈ l, OkR 35 40 f) → OkF 35 40 l := by
        intro l
        induction l with
        | nil => exact fun _ => trivial
        | cons f l ih => exact fun h => ⟨h f List.mem_cons_self, ih fun g hg => h g (List.mem_cons_of_mem _ hg)⟩
      have o5 := okFF _ okF
      have len5 : (F4.take m ++ [Fr.picker 7 p (.num 2)]).length ≤ 5 := by
        rw [List.length_append, List.length_take]
        simp only [List.length_singleton]
        omega
      have cd5 := plug_len (q := .num 0) o5.frP
      generalize F4.take m ++ [Fr.picker 7 p (.num 2)] = F5 at *
      have okept : Ok 35 40 [] (.kept 6 F5) := ⟨by omega, by have := ms_cd (plug F5 (.num 0)); simp only [cd] at cd5; omega, o5⟩
      refine ⟨.plus 8 (.call 9 (.kept 6 F5) (.num (c % 5 - 2))) (.num 3), some (.ref 0), some (Pc.d (.kept 6 F5)), [.lst (Fr.ds F4)], ?_, ?_, 0, by omega, ?_, ?_, ?_, ?_⟩
      · have cut := cut_take (Fr.ds F4) m
        rw [e4] at cut e5
        have hmin : min m 4 ≤ 16777215 := by omega
        simp [b_law, b_law_t1, b_law_t2, varK_1, eVar_u, eC_u, aNil_u, acK1_1, acK2_1, aCons_u, tupK_1, eTup_u, ldK_1, lDisp_u, eLK_1, eLMK_1, eL_u, eLM_u, eDiK_1, eDMK_1, eDi_u, eDM_u, opK1_1, opK2_1, opK3_1, eOp_u, negK_1, eNeg_u, slK1_1, slK2_1, slK3_1, slK4_1, ptSK_1, ptN_u, ptS_u, eSlice_u, callK_1, eCall_u, biK_1, blK_1, blK2_1, eBi_u, lBi_u, isiK_1, isiK2_1, eIsi_u, revK_1, revK2_1, lRev_u, andEK_1, andEK_2, orEK_1, orEK_2, notEK_1, orSK_1, ifEK_1, ifEK_2, tofK_1, eAnd_u, eOr_u, eNot_u, eOrS_u, eIf_u, tOf_u, chK1_1, chK2_1, chK3_1, chK3_2, eChain_u, tandK_1, tandK_2, torK_1, torK_2, tnotK_1, tTrue_u, tfAnd_u, tfOr_u, tfNot_u, lcK1_1, lcK2_1, lcK3_1, lcK3_2, lcK4_1, lcK5_1, lcD_n, lcD_c, aLc_u, wipeD_n, wipeD_c, gdName_u, gsK_1, gsNil_u, gdTup_u, gsCons_u, iseqK_1, iseqK2_1, itupK_1, istrK_1, irng1K_1, irng2K_1, seqP_1, seqP_2, iSeq_u, iTupD_u, iStrD_u, iRange1_u, iRange2_u, m1K_1, m1K2_1, m0K_1, s1K_1, eMeth1_u, eMeth0_u, eS1_u, setK_1, asgK_1, asgK2_1, retK_1, expK_1, seqK_1, seqK_2, seqK_3, ifK_1, ifK_2, forK_1, forD_n, forK2_1, forK3_1, forK3_2, forK3_3, fnK_1, fnK_2, gcK_1, sNext_u, sBrk_u, stK_1, stK0_1, stK1_1, stK2_1, sSet_u, sAsg_u, sRet_u, sExp_u, sSeq_u, sIf_u, sFor_u, forD_c, fnD_u, gcFn_u, sSetIx_u, dAdd_i, dAdd_s, dAdd_t, dAdd_l, dSub_i, dCmp_i, dEq_s, dEq_i, dEq_b, dNe_s, dNe_i, dNe_b, dIx_t, dIx_l, dIx_c, dSlice_t, dSlice_l, dSlice_c, dSlice_s, bLen_t, bLen_l, bLen_s, bTup_t, bTup_l, blList_t, blList_l, bInt_i, bInt_t, bInt_f, bMin_i, dIsN_1, dIsN_2, seqL_l, seqL_c, dMod_i, dDiv_i, dMul_r, dMul_l, bLen_c, gc_same, pow12, dicS_d, dicO_1, keyO_s, keyO_i, dgK_1, dgK2_1, diK_1, diK2_f, diK2_t, valD_n, mergeD_n, mergeD_c, putD_n, ienK_1, ppNil_u, ppK_1, ppK2_1, ppK3_1, keysD_n, kdK_1, kdK2_1, ddK_1, ddK2_1, g2K_1, g2K1_1, g2K2_1, g2K3_1, g2K4_1, isDic_d, dpK_1, dpK1_1, dpK2_1, dpK3_1, dbK_1, dbK2_1, bdCopy_1, ddNew_u, dicS_r, dGet_u, dInK_u, valD_c, putD_c, iEnumD_u, ppCons_u, keysD_c, ddDisp_u, eGet2_u, sDput_u, ddCopy_u, List.map_cons, List.map_nil, List.length_cons, List.length_nil, List.cons_append, List.nil_append, List.append_nil, List.getElem?_cons_zero, List.getElem?_cons_succ, List.set_cons_zero, List.set_cons_succ, ofString_inj, ofString_beq, ec0, em0, ep, h, em, cut, e5, e4, Pc.d, setO, kAppend, isLst, dSlice, seqL, sizeLine_eq, hmin]
      · unfold okS; simp [okO, okD_frs]
      · exact ⟨⟨okept, trivial⟩, trivial⟩
      · exact sp_of (by simp [cd])
      · simp [ms, us]
      · simp [cd]
    · exact ⟨p, none, none, [], by simp [b_law, b_law_t1, b_law_t2, varK_1, eVar_u, eC_u, aNil_u, acK1_1, acK2_1, aCons_u, tupK_1, eTup_u, ldK_1, lDisp_u, eLK_1, eLMK_1, eL_u, eLM_u, eDiK_1, eDMK_1, eDi_u, eDM_u, opK1_1, opK2_1, opK3_1, eOp_u, negK_1, eNeg_u, slK1_1, slK2_1, slK3_1, slK4_1, ptSK_1, ptN_u, ptS_u, eSlice_u, callK_1, eCall_u, biK_1, blK_1, blK2_1, eBi_u, lBi_u, isiK_1, isiK2_1, eIsi_u, revK_1, revK2_1, lRev_u, andEK_1, andEK_2, orEK_1, orEK_2, notEK_1, orSK_1, ifEK_1, ifEK_2, tofK_1, eAnd_u, eOr_u, eNot_u, eOrS_u, eIf_u, tOf_u, chK1_1, chK2_1, chK3_1, chK3_2, eChain_u, tandK_1, tandK_2, torK_1, torK_2, tnotK_1, tTrue_u, tfAnd_u, tfOr_u, tfNot_u, lcK1_1, lcK2_1, lcK3_1, lcK3_2, lcK4_1, lcK5_1, lcD_n, lcD_c, aLc_u, wipeD_n, wipeD_c, gdName_u, gsK_1, gsNil_u, gdTup_u, gsCons_u, iseqK_1, iseqK2_1, itupK_1, istrK_1, irng1K_1, irng2K_1, seqP_1, seqP_2, iSeq_u, iTupD_u, iStrD_u, iRange1_u, iRange2_u, m1K_1, m1K2_1, m0K_1, s1K_1, eMeth1_u, eMeth0_u, eS1_u, setK_1, asgK_1, asgK2_1, retK_1, expK_1, seqK_1, seqK_2, seqK_3, ifK_1, ifK_2, forK_1, forD_n, forK2_1, forK3_1, forK3_2, forK3_3, fnK_1, fnK_2, gcK_1, sNext_u, sBrk_u, stK_1, stK0_1, stK1_1, stK2_1, sSet_u, sAsg_u, sRet_u, sExp_u, sSeq_u, sIf_u, sFor_u, forD_c, fnD_u, gcFn_u, sSetIx_u, dAdd_i, dAdd_s, dAdd_t, dAdd_l, dSub_i, dCmp_i, dEq_s, dEq_i, dEq_b, dNe_s, dNe_i, dNe_b, dIx_t, dIx_l, dIx_c, dSlice_t, dSlice_l, dSlice_c, dSlice_s, bLen_t, bLen_l, bLen_s, bTup_t, bTup_l, blList_t, blList_l, bInt_i, bInt_t, bInt_f, bMin_i, dIsN_1, dIsN_2, seqL_l, seqL_c, dMod_i, dDiv_i, dMul_r, dMul_l, bLen_c, gc_same, pow12, dicS_d, dicO_1, keyO_s, keyO_i, dgK_1, dgK2_1, diK_1, diK2_f, diK2_t, valD_n, mergeD_n, mergeD_c, putD_n, ienK_1, ppNil_u, ppK_1, ppK2_1, ppK3_1, keysD_n, kdK_1, kdK2_1, ddK_1, ddK2_1, g2K_1, g2K1_1, g2K2_1, g2K3_1, g2K4_1, isDic_d, dpK_1, dpK1_1, dpK2_1, dpK3_1, dbK_1, dbK2_1, bdCopy_1, ddNew_u, dicS_r, dGet_u, dInK_u, valD_c, putD_c, iEnumD_u, ppCons_u, keysD_c, ddDisp_u, eGet2_u, sDput_u, ddCopy_u, List.map_cons, List.map_nil, List.length_cons, List.length_nil, List.cons_append, List.nil_append, List.append_nil, List.getElem?_cons_zero, List.getElem?_cons_succ, List.set_cons_zero, List.set_cons_succ, ofString_inj, ofString_beq, ec0, em0, ep, h], ok0, g0⟩
  obtain ⟨q, z4, z5, S, st1, ok, hq⟩ := st1
  have ec1 := cell_D (k := 230) (by decide) ns 1 (by decide) S
  have hn : ∃ n : Nat, 1 + cell ns 1 % 20 = (n : Int) ∧ n ≤ 20 := ⟨(1 + cell ns 1 % 20).toNat, by omega, by omega⟩
  obtain ⟨n, en, hn⟩ := hn
  have el : rangeD 0 (n : Int) = ((List.range n).map fun i : Nat => (i : Int)).map D.int := by
    unfold rangeD
    have : ((n : Int) - 0).toNat = n := by omega
    rw [this, List.map_map]
    congr 1
    funext i
    simp
  obtain ⟨a2, a3, a6, a7, a8, lp⟩ := loop03 S ok (some (.scr ns)) (some (.int c)) z4 z5 ((List.range n).map fun i : Nat => (i : Int)) 0 q none none none none (by simp; omega) hq
  have hn2 : (n : Int) < 4611686018427387904 := by omega
  have hn3 : (-4611686018427387904 : Int) ≤ n := by omega
  have st3 : b_law_t3 (Fk 230) [some (.scr ns), some (.int c), some q.d, none, z4, z5, none, none, none] S = some (.rt (.bl true) S) := by
    rw [List.map_map] at lp el
    simp [b_law_t3, b_law_t4, varK_1, eVar_u, eC_u, aNil_u, acK1_1, acK2_1, aCons_u, tupK_1, eTup_u, ldK_1, lDisp_u, eLK_1, eLMK_1, eL_u, eLM_u, eDiK_1, eDMK_1, eDi_u, eDM_u, opK1_1, opK2_1, opK3_1, eOp_u, negK_1, eNeg_u, slK1_1, slK2_1, slK3_1, slK4_1, ptSK_1, ptN_u, ptS_u, eSlice_u, callK_1, eCall_u, biK_1, blK_1, blK2_1, eBi_u, lBi_u, isiK_1, isiK2_1, eIsi_u, revK_1, revK2_1, lRev_u, andEK_1, andEK_2, orEK_1, orEK_2, notEK_1, orSK_1, ifEK_1, ifEK_2, tofK_1, eAnd_u, eOr_u, eNot_u, eOrS_u, eIf_u, tOf_u, chK1_1, chK2_1, chK3_1, chK3_2, eChain_u, tandK_1, tandK_2, torK_1, torK_2, tnotK_1, tTrue_u, tfAnd_u, tfOr_u, tfNot_u, lcK1_1, lcK2_1, lcK3_1, lcK3_2, lcK4_1, lcK5_1, lcD_n, lcD_c, aLc_u, wipeD_n, wipeD_c, gdName_u, gsK_1, gsNil_u, gdTup_u, gsCons_u, iseqK_1, iseqK2_1, itupK_1, istrK_1, irng1K_1, irng2K_1, seqP_1, seqP_2, iSeq_u, iTupD_u, iStrD_u, iRange1_u, iRange2_u, m1K_1, m1K2_1, m0K_1, s1K_1, eMeth1_u, eMeth0_u, eS1_u, setK_1, asgK_1, asgK2_1, retK_1, expK_1, seqK_1, seqK_2, seqK_3, ifK_1, ifK_2, forK_1, forD_n, forK2_1, forK3_1, forK3_2, forK3_3, fnK_1, fnK_2, gcK_1, sNext_u, sBrk_u, stK_1, stK0_1, stK1_1, stK2_1, sSet_u, sAsg_u, sRet_u, sExp_u, sSeq_u, sIf_u, sFor_u, forD_c, fnD_u, gcFn_u, sSetIx_u, dAdd_i, dAdd_s, dAdd_t, dAdd_l, dSub_i, dCmp_i, dEq_s, dEq_i, dEq_b, dNe_s, dNe_i, dNe_b, dIx_t, dIx_l, dIx_c, dSlice_t, dSlice_l, dSlice_c, dSlice_s, bLen_t, bLen_l, bLen_s, bTup_t, bTup_l, blList_t, blList_l, bInt_i, bInt_t, bInt_f, bMin_i, dIsN_1, dIsN_2, seqL_l, seqL_c, dMod_i, dDiv_i, dMul_r, dMul_l, bLen_c, gc_same, pow12, dicS_d, dicO_1, keyO_s, keyO_i, dgK_1, dgK2_1, diK_1, diK2_f, diK2_t, valD_n, mergeD_n, mergeD_c, putD_n, ienK_1, ppNil_u, ppK_1, ppK2_1, ppK3_1, keysD_n, kdK_1, kdK2_1, ddK_1, ddK2_1, g2K_1, g2K1_1, g2K2_1, g2K3_1, g2K4_1, isDic_d, dpK_1, dpK1_1, dpK2_1, dpK3_1, dbK_1, dbK2_1, bdCopy_1, ddNew_u, dicS_r, dGet_u, dInK_u, valD_c, putD_c, iEnumD_u, ppCons_u, keysD_c, ddDisp_u, eGet2_u, sDput_u, ddCopy_u, List.map_cons, List.map_nil, List.length_cons, List.length_nil, List.cons_append, List.nil_append, List.append_nil, List.getElem?_cons_zero, List.getElem?_cons_succ, List.set_cons_zero, List.set_cons_succ, ofString_inj, ofString_beq, ec1, en, hn2, hn3, el, lp]
  refine ⟨S, ?_⟩
  rw [fnD_u]
  simp only [List.map_cons, List.map_nil, List.length_cons, List.length_nil, List.cons_append, List.nil_append]
  rw [show List.replicate (9 - (0 + 1)) none = ([none, none, none, none, none, none, none, none] : Sl) from rfl, st1, st3, fnK_1]
section
variable {P : Program} {w : World} {K : PySem.W.Frag} {mg : Str → Option Value} {base : Heap} {C : Addr}
structure DefOk (K : PySem.W.Frag) (mg : Str → Option Value) (x : Str) (st : Stmt) (ps : List Str) (f : Addr) (fd : FuncData) : Prop where
  F : L2.Fun K x x st f fd
  B : Binds K fd ps []
  M : mg x = some (.ref f)
theorem all_ok {a_is_value : Addr} {d_is_value : FuncData} (h_is_value : DefOk K mg "is_value" s_is_value ["piece"] a_is_value d_is_value) {a_put_in : Addr} {d_put_in : FuncData} (h_put_in : DefOk K mg "put_in" s_put_in ["piece", "name", "value"] a_put_in d_put_in) {a_inner_of : Addr} {d_inner_of : FuncData} (h_inner_of : DefOk K mg "inner_of" s_inner_of ["piece"] a_inner_of d_inner_of) {a_parted : Addr} {d_parted : FuncData} (h_parted : DefOk K mg "parted" s_parted ["piece"] a_parted d_parted) {a_wrapped : Addr} {d_wrapped : FuncData} (h_wrapped : DefOk K mg "wrapped" s_wrapped ["frame", "piece"] a_wrapped d_wrapped) {a_plugged : Addr} {d_plugged : FuncData} (h_plugged : DefOk K mg "plugged" s_plugged ["frames", "piece"] a_plugged d_plugged) {a_to_round : Addr} {d_to_round : FuncData} (h_to_round : DefOk K mg "to_round" s_to_round ["frames"] a_to_round d_to_round) {a_called : Addr} {d_called : FuncData} (h_called : DefOk K mg "called" s_called ["here"] a_called d_called) {a_done_here : Addr} {d_done_here : FuncData} (h_done_here : DefOk K mg "done_here" s_done_here ["here"] a_done_here d_done_here) {a_stepped : Addr} {d_stepped : FuncData} (h_stepped : DefOk K mg "stepped" s_stepped ["piece"] a_stepped d_stepped) {a__law_cell_at : Addr} {d__law_cell_at : FuncData} (h__law_cell_at : DefOk K mg "_law_cell_at" s__law_cell_at ["_law_script", "_law_k"] a__law_cell_at d__law_cell_at) {a__law_mixed : Addr} {d__law_mixed : FuncData} (h__law_mixed : DefOk K mg "_law_mixed" s__law_mixed ["_law_number"] a__law_mixed d__law_mixed) {a__law_name_by : Addr} {d__law_name_by : FuncData} (h__law_name_by : DefOk K mg "_law_name_by" s__law_name_by ["_law_mix"] a__law_name_by d__law_name_by) {a__law_mark_by : Addr} {d__law_mark_by : FuncData} (h__law_mark_by : DefOk K mg "_law_mark_by" s__law_mark_by ["_law_mix"] a__law_mark_by d__law_mark_by) {a__law_leaf : Addr} {d__law_leaf : FuncData} (h__law_leaf : DefOk K mg "_law_leaf" s__law_leaf ["_law_mix", "_law_scope"] a__law_leaf d__law_leaf) {a__law_gone_on : Addr} {d__law_gone_on : FuncData} (h__law_gone_on : DefOk K mg "_law_gone_on" s__law_gone_on ["_law_script", "_law_state", "_law_deep", "_law_scope"] a__law_gone_on d__law_gone_on) {a__law_made : Addr} {d__law_made : FuncData} (h__law_made : DefOk K mg "_law_made" s__law_made ["_law_script", "_law_state", "_law_deep", "_law_scope"] a__law_made d__law_made) {a__law_piece : Addr} {d__law_piece : FuncData} (h__law_piece : DefOk K mg "_law_piece" s__law_piece ["_law_script", "_law_first", "_law_cell"] a__law_piece d__law_piece) {a__law_value : Addr} {d__law_value : FuncData} (h__law_value : DefOk K mg "_law_value" s__law_value ["_law_piece_here"] a__law_value d__law_value) {a__law_put : Addr} {d__law_put : FuncData} (h__law_put : DefOk K mg "_law_put" s__law_put ["_law_piece_here", "_law_name", "_law_value_here"] a__law_put d__law_put) {a__law_inward : Addr} {d__law_inward : FuncData} (h__law_inward : DefOk K mg "_law_inward" s__law_inward ["_law_piece_here"] a__law_inward d__law_inward) {a__law_line : Addr} {d__law_line : FuncData} (h__law_line : DefOk K mg "_law_line" s__law_line ["_law_piece_here"] a__law_line d__law_line) {a__law_frame : Addr} {d__law_frame : FuncData} (h__law_frame : DefOk K mg "_law_frame" s__law_frame ["_law_piece_here", "_law_k"] a__law_frame d__law_frame) {a__law_about : Addr} {d__law_about : FuncData} (h__law_about : DefOk K mg "_law_about" s__law_about ["_law_line_here", "_law_inner"] a__law_about d__law_about) {a__law_in_frames : Addr} {d__law_in_frames : FuncData} (h__law_in_frames : DefOk K mg "_law_in_frames" s__law_in_frames ["_law_frames", "_law_inner"] a__law_in_frames d__law_in_frames) {a__law_becomes : Addr} {d__law_becomes : FuncData} (h__law_becomes : DefOk K mg "_law_becomes" s__law_becomes ["_law_here"] a__law_becomes d__law_becomes) {a__law_step : Addr} {d__law_step : FuncData} (h__law_step : DefOk K mg "_law_step" s__law_step ["_law_piece_here"] a__law_step d__law_step) (mb : Mb mg) : ∀ k n, Cal P w K mg base C k (nmS n) (nmA n) (Fk k n)
  | 0, n => by
    cases n
    · exact ⟨_, _, _, fn_none, h_is_value.B, h_is_value.F.kp, h_is_value.M⟩
    · exact ⟨_, _, _, fn_none, h_put_in.B, h_put_in.F.kp, h_put_in.M⟩
    · exact ⟨_, _, _, fn_none, h_inner_of.B, h_inner_of.F.kp, h_inner_of.M⟩
    · exact ⟨_, _, _, fn_none, h_parted.B, h_parted.F.kp, h_parted.M⟩
    · exact ⟨_, _, _, fn_none, h_wrapped.B, h_wrapped.F.kp, h_wrapped.M⟩
    · exact ⟨_, _, _, fn_none, h_plugged.B, h_plugged.F.kp, h_plugged.M⟩
    · exact ⟨_, _, _, fn_none, h_to_round.B, h_to_round.F.kp, h_to_round.M⟩
    · exact ⟨_, _, _, fn_none, h_called.B, h_called.F.kp, h_called.M⟩
    · exact ⟨_, _, _, fn_none, h_done_here.B, h_done_here.F.kp, h_done_here.M⟩
    · exact ⟨_, _, _, fn_none, h_stepped.B, h_stepped.F.kp, h_stepped.M⟩
    · exact ⟨_, _, _, fn_none, h__law_cell_at.B, h__law_cell_at.F.kp, h__law_cell_at.M⟩
    · exact ⟨_, _, _, fn_none, h__law_mixed.B, h__law_mixed.F.kp, h__law_mixed.M⟩
    · exact ⟨_, _, _, fn_none, h__law_name_by.B, h__law_name_by.F.kp, h__law_name_by.M⟩
    · exact ⟨_, _, _, fn_none, h__law_mark_by.B, h__law_mark_by.F.kp, h__law_mark_by.M⟩
    · exact ⟨_, _, _, fn_none, h__law_leaf.B, h__law_leaf.F.kp, h__law_leaf.M⟩
    · exact ⟨_, _, _, fn_none, h__law_gone_on.B, h__law_gone_on.F.kp, h__law_gone_on.M⟩
    · exact ⟨_, _, _, fn_none, h__law_made.B, h__law_made.F.kp, h__law_made.M⟩
    · exact ⟨_, _, _, fn_none, h__law_piece.B, h__law_piece.F.kp, h__law_piece.M⟩
    · exact ⟨_, _, _, fn_none, h__law_value.B, h__law_value.F.kp, h__law_value.M⟩
    · exact ⟨_, _, _, fn_none, h__law_put.B, h__law_put.F.kp, h__law_put.M⟩
    · exact ⟨_, _, _, fn_none, h__law_inward.B, h__law_inward.F.kp, h__law_inward.M⟩
    · exact ⟨_, _, _, fn_none, h__law_line.B, h__law_line.F.kp, h__law_line.M⟩
    · exact ⟨_, _, _, fn_none, h__law_frame.B, h__law_frame.F.kp, h__law_frame.M⟩
    · exact ⟨_, _, _, fn_none, h__law_about.B, h__law_about.F.kp, h__law_about.M⟩
    · exact ⟨_, _, _, fn_none, h__law_in_frames.B, h__law_in_frames.F.kp, h__law_in_frames.M⟩
    · exact ⟨_, _, _, fn_none, h__law_becomes.B, h__law_becomes.F.kp, h__law_becomes.M⟩
    · exact ⟨_, _, _, fn_none, h__law_step.B, h__law_step.F.kp, h__law_step.M⟩
  | k + 1, n => by
    have ih := all_ok h_is_value h_put_in h_inner_of h_parted h_wrapped h_plugged h_to_round h_called h_done_here h_stepped h__law_cell_at h__law_mixed h__law_name_by h__law_mark_by h__law_leaf h__law_gone_on h__law_made h__law_piece h__law_value h__law_put h__law_inward h__law_line h__law_frame h__law_about h__law_in_frames h__law_becomes h__law_step mb k
    cases n
    · exact ⟨_, _, _, Cb.FnOk.gc (ok_is_value h_is_value.F ih mb), h_is_value.B, h_is_value.F.kp, h_is_value.M⟩
    · exact ⟨_, _, _, Cb.FnOk.gc (ok_put_in h_put_in.F ih mb), h_put_in.B, h_put_in.F.kp, h_put_in.M⟩
    · exact ⟨_, _, _, Cb.FnOk.gc (ok_inner_of h_inner_of.F ih mb), h_inner_of.B, h_inner_of.F.kp, h_inner_of.M⟩
    · exact ⟨_, _, _, Cb.FnOk.gc (ok_parted h_parted.F ih mb), h_parted.B, h_parted.F.kp, h_parted.M⟩
    · exact ⟨_, _, _, Cb.FnOk.gc (ok_wrapped h_wrapped.F ih mb), h_wrapped.B, h_wrapped.F.kp, h_wrapped.M⟩
    · exact ⟨_, _, _, Cb.FnOk.gc (ok_plugged h_plugged.F ih mb), h_plugged.B, h_plugged.F.kp, h_plugged.M⟩
    · exact ⟨_, _, _, Cb.FnOk.gc (ok_to_round h_to_round.F ih mb), h_to_round.B, h_to_round.F.kp, h_to_round.M⟩
    · exact ⟨_, _, _, Cb.FnOk.gc (ok_called h_called.F ih mb), h_called.B, h_called.F.kp, h_called.M⟩
    · exact ⟨_, _, _, Cb.FnOk.gc (ok_done_here h_done_here.F ih mb), h_done_here.B, h_done_here.F.kp, h_done_here.M⟩
    · exact ⟨_, _, _, Cb.FnOk.gc (ok_stepped h_stepped.F ih mb), h_stepped.B, h_stepped.F.kp, h_stepped.M⟩
    · exact ⟨_, _, _, Cb.FnOk.gc (ok__law_cell_at h__law_cell_at.F ih mb), h__law_cell_at.B, h__law_cell_at.F.kp, h__law_cell_at.M⟩
    · exact ⟨_, _, _, Cb.FnOk.gc (ok__law_mixed h__law_mixed.F ih mb), h__law_mixed.B, h__law_mixed.F.kp, h__law_mixed.M⟩
    · exact ⟨_, _, _, Cb.FnOk.gc (ok__law_name_by h__law_name_by.F ih mb), h__law_name_by.B, h__law_name_by.F.kp, h__law_name_by.M⟩
    · exact ⟨_, _, _, Cb.FnOk.gc (ok__law_mark_by h__law_mark_by.F ih mb), h__law_mark_by.B, h__law_mark_by.F.kp, h__law_mark_by.M⟩
    · exact ⟨_, _, _, Cb.FnOk.gc (ok__law_leaf h__law_leaf.F ih mb), h__law_leaf.B, h__law_leaf.F.kp, h__law_leaf.M⟩
    · exact ⟨_, _, _, Cb.FnOk.gc (ok__law_gone_on h__law_gone_on.F ih mb), h__law_gone_on.B, h__law_gone_on.F.kp, h__law_gone_on.M⟩
    · exact ⟨_, _, _, Cb.FnOk.gc (ok__law_made h__law_made.F ih mb), h__law_made.B, h__law_made.F.kp, h__law_made.M⟩
    · exact ⟨_, _, _, Cb.FnOk.gc (ok__law_piece h__law_piece.F ih mb), h__law_piece.B, h__law_piece.F.kp, h__law_piece.M⟩
    · exact ⟨_, _, _, Cb.FnOk.gc (ok__law_value h__law_value.F ih mb), h__law_value.B, h__law_value.F.kp, h__law_value.M⟩
    · exact ⟨_, _, _, Cb.FnOk.gc (ok__law_put h__law_put.F ih mb), h__law_put.B, h__law_put.F.kp, h__law_put.M⟩
    · exact ⟨_, _, _, Cb.FnOk.gc (ok__law_inward h__law_inward.F ih mb), h__law_inward.B, h__law_inward.F.kp, h__law_inward.M⟩
    · exact ⟨_, _, _, Cb.FnOk.gc (ok__law_line h__law_line.F ih mb), h__law_line.B, h__law_line.F.kp, h__law_line.M⟩
    · exact ⟨_, _, _, Cb.FnOk.gc (ok__law_frame h__law_frame.F ih mb), h__law_frame.B, h__law_frame.F.kp, h__law_frame.M⟩
    · exact ⟨_, _, _, Cb.FnOk.gc (ok__law_about h__law_about.F ih mb), h__law_about.B, h__law_about.F.kp, h__law_about.M⟩
    · exact ⟨_, _, _, Cb.FnOk.gc (ok__law_in_frames h__law_in_frames.F ih mb), h__law_in_frames.B, h__law_in_frames.F.kp, h__law_in_frames.M⟩
    · exact ⟨_, _, _, Cb.FnOk.gc (ok__law_becomes h__law_becomes.F ih mb), h__law_becomes.B, h__law_becomes.F.kp, h__law_becomes.M⟩
    · exact ⟨_, _, _, Cb.FnOk.gc (ok__law_step h__law_step.F ih mb), h__law_step.B, h__law_step.F.kp, h__law_step.M⟩
end
def spLaw (K : PySem.W.Frag) : L2.Sp := fun vs H Q _ => ∃ (a : Addr) (ns : List Int), vs = [.ref a] ∧ SqF K H a (ns.map V.int) ∧ ns.length ≤ 63 ∧ ∀ H', Q (.bl true) H'
theorem law_imp {P : Program} {w : World} {K : PySem.W.Frag} {mg : Str → Option Value} {base : Heap} {C f : Addr} {fd : FuncData} {k n : Nat} {b : B} (hT : ∀ ns : List Int, ns.length ≤ 63 → ∃ S, fnD n b [.scr ns] [] = some (.bl true, S)) (h : FnOk P w K mg base CX0 k f fd ["_law_script"] (spF C K 1 (fnD n b))) : FnOk P w K mg base CX0 k f fd ["_law_script"] (spLaw K) :=
  h.imp fun vs H Q E ⟨a, ns, e, hS, hl, q⟩ => by
    subst e
    obtain ⟨S, hf⟩ := hT ns hl
    exact ⟨rfl, ⟨[], []⟩, [], [.scr ns], .bl true, S, .cons (.scr hS) .nil, ⟨List.nodup_nil, rfl, fun n a o h1 h2 => by simp at h1, fun a ha => by simp at ha, fun a ha => by simp at ha⟩, hf, fun v m' H' e s r => by cases r; exact q H'⟩
theorem all_mk (hT : ∀ ns : List Int, ns.length ≤ 63 → ∃ S, fnD 9 (b_law (Fk 230)) [.scr ns] [] = some (.bl true, S)) {l : PySem.W.OpenLaw} {w : World} {K : PySem.W.Frag} {h : Heap} {mg : Str → Option Value} {fa : Addr} (X : K.In h) (G : h.Ns mainGlobals mg) (hfa : mg "law" = some (.ref fa))
    {f0 : Addr} {od0 an0 : Option Addr} {sl0 : Array (Option Value)} {oc0 kV0 dc0 pm0 cd0 ct0 : Value}
    (a0 : PySem.W.nsIn K mainGlobals "is_value" = some (some (.ref f0))) (l0 : K.lookup f0 = some ⟨oc0, od0, .func (PySem.W.fnOf "is_value" "is_value" (defArgs s_is_value) (defBody s_is_value) (defScope s_is_value) .none kV0 dc0 pm0 an0 cd0 ct0), sl0⟩) (c0 : PySem.W.codeIn K cd0 "is_value" = true) (k0 : PySem.W.keepIn K (.ref f0) = true)
    {f1 : Addr} {od1 an1 : Option Addr} {sl1 : Array (Option Value)} {oc1 kV1 dc1 pm1 cd1 ct1 : Value}
    (a1 : PySem.W.nsIn K mainGlobals "put_in" = some (some (.ref f1))) (l1 : K.lookup f1 = some ⟨oc1, od1, .func (PySem.W.fnOf "put_in" "put_in" (defArgs s_put_in) (defBody s_put_in) (defScope s_put_in) .none kV1 dc1 pm1 an1 cd1 ct1), sl1⟩) (c1 : PySem.W.codeIn K cd1 "put_in" = true) (k1 : PySem.W.keepIn K (.ref f1) = true)
    {f2 : Addr} {od2 an2 : Option Addr} {sl2 : Array (Option Value)} {oc2 kV2 dc2 pm2 cd2 ct2 : Value}
    (a2 : PySem.W.nsIn K mainGlobals "inner_of" = some (some (.ref f2))) (l2 : K.lookup f2 = some ⟨oc2, od2, .func (PySem.W.fnOf "inner_of" "inner_of" (defArgs s_inner_of) (defBody s_inner_of) (defScope s_inner_of) .none kV2 dc2 pm2 an2 cd2 ct2), sl2⟩) (c2 : PySem.W.codeIn K cd2 "inner_of" = true) (k2 : PySem.W.keepIn K (.ref f2) = true)
    {f3 : Addr} {od3 an3 : Option Addr} {sl3 : Array (Option Value)} {oc3 kV3 dc3 pm3 cd3 ct3 : Value}
    (a3 : PySem.W.nsIn K mainGlobals "parted" = some (some (.ref f3))) (l3 : K.lookup f3 = some ⟨oc3, od3, .func (PySem.W.fnOf "parted" "parted" (defArgs s_parted) (defBody s_parted) (defScope s_parted) .none kV3 dc3 pm3 an3 cd3 ct3), sl3⟩) (c3 : PySem.W.codeIn K cd3 "parted" = true) (k3 : PySem.W.keepIn K (.ref f3) = true)
    {f4 : Addr} {od4 an4 : Option Addr} {sl4 : Array (Option Value)} {oc4 kV4 dc4 pm4 cd4 ct4 : Value}
    (a4 : PySem.W.nsIn K mainGlobals "wrapped" = some (some (.ref f4))) (l4 : K.lookup f4 = some ⟨oc4, od4, .func (PySem.W.fnOf "wrapped" "wrapped" (defArgs s_wrapped) (defBody s_wrapped) (defScope s_wrapped) .none kV4 dc4 pm4 an4 cd4 ct4), sl4⟩) (c4 : PySem.W.codeIn K cd4 "wrapped" = true) (k4 : PySem.W.keepIn K (.ref f4) = true)
    {f5 : Addr} {od5 an5 : Option Addr} {sl5 : Array (Option Value)} {oc5 kV5 dc5 pm5 cd5 ct5 : Value}
    (a5 : PySem.W.nsIn K mainGlobals "plugged" = some (some (.ref f5))) (l5 : K.lookup f5 = some ⟨oc5, od5, .func (PySem.W.fnOf "plugged" "plugged" (defArgs s_plugged) (defBody s_plugged) (defScope s_plugged) .none kV5 dc5 pm5 an5 cd5 ct5), sl5⟩) (c5 : PySem.W.codeIn K cd5 "plugged" = true) (k5 : PySem.W.keepIn K (.ref f5) = true)
    {f6 : Addr} {od6 an6 : Option Addr} {sl6 : Array (Option Value)} {oc6 kV6 dc6 pm6 cd6 ct6 : Value}
    (a6 : PySem.W.nsIn K mainGlobals "to_round" = some (some (.ref f6))) (l6 : K.lookup f6 = some ⟨oc6, od6, .func (PySem.W.fnOf "to_round" "to_round" (defArgs s_to_round) (defBody s_to_round) (defScope s_to_round) .none kV6 dc6 pm6 an6 cd6 ct6), sl6⟩) (c6 : PySem.W.codeIn K cd6 "to_round" = true) (k6 : PySem.W.keepIn K (.ref f6) = true)
    {f7 : Addr} {od7 an7 : Option Addr} {sl7 : Array (Option Value)} {oc7 kV7 dc7 pm7 cd7 ct7 : Value}
    (a7 : PySem.W.nsIn K mainGlobals "called" = some (some (.ref f7))) (l7 : K.lookup f7 = some ⟨oc7, od7, .func (PySem.W.fnOf "called" "called" (defArgs s_called) (defBody s_called) (defScope s_called) .none kV7 dc7 pm7 an7 cd7 ct7), sl7⟩) (c7 : PySem.W.codeIn K cd7 "called" = true) (k7 : PySem.W.keepIn K (.ref f7) = true)
    {f8 : Addr} {od8 an8 : Option Addr} {sl8 : Array (Option Value)} {oc8 kV8 dc8 pm8 cd8 ct8 : Value}
    (a8 : PySem.W.nsIn K mainGlobals "done_here" = some (some (.ref f8))) (l8 : K.lookup f8 = some ⟨oc8, od8, .func (PySem.W.fnOf "done_here" "done_here" (defArgs s_done_here) (defBody s_done_here) (defScope s_done_here) .none kV8 dc8 pm8 an8 cd8 ct8), sl8⟩) (c8 : PySem.W.codeIn K cd8 "done_here" = true) (k8 : PySem.W.keepIn K (.ref f8) = true)
    {f9 : Addr} {od9 an9 : Option Addr} {sl9 : Array (Option Value)} {oc9 kV9 dc9 pm9 cd9 ct9 : Value}
    (a9 : PySem.W.nsIn K mainGlobals "stepped" = some (some (.ref f9))) (l9 : K.lookup f9 = some ⟨oc9, od9, .func (PySem.W.fnOf "stepped" "stepped" (defArgs s_stepped) (defBody s_stepped) (defScope s_stepped) .none kV9 dc9 pm9 an9 cd9 ct9), sl9⟩) (c9 : PySem.W.codeIn K cd9 "stepped" = true) (k9 : PySem.W.keepIn K (.ref f9) = true)
    {f10 : Addr} {od10 an10 : Option Addr} {sl10 : Array (Option Value)} {oc10 kV10 dc10 pm10 cd10 ct10 : Value}
    (a10 : PySem.W.nsIn K mainGlobals "_law_cell_at" = some (some (.ref f10))) (l10 : K.lookup f10 = some ⟨oc10, od10, .func (PySem.W.fnOf "_law_cell_at" "_law_cell_at" (defArgs s__law_cell_at) (defBody s__law_cell_at) (defScope s__law_cell_at) .none kV10 dc10 pm10 an10 cd10 ct10), sl10⟩) (c10 : PySem.W.codeIn K cd10 "_law_cell_at" = true) (k10 : PySem.W.keepIn K (.ref f10) = true)
    {f11 : Addr} {od11 an11 : Option Addr} {sl11 : Array (Option Value)} {oc11 kV11 dc11 pm11 cd11 ct11 : Value}
    (a11 : PySem.W.nsIn K mainGlobals "_law_mixed" = some (some (.ref f11))) (l11 : K.lookup f11 = some ⟨oc11, od11, .func (PySem.W.fnOf "_law_mixed" "_law_mixed" (defArgs s__law_mixed) (defBody s__law_mixed) (defScope s__law_mixed) .none kV11 dc11 pm11 an11 cd11 ct11), sl11⟩) (c11 : PySem.W.codeIn K cd11 "_law_mixed" = true) (k11 : PySem.W.keepIn K (.ref f11) = true)
    {f12 : Addr} {od12 an12 : Option Addr} {sl12 : Array (Option Value)} {oc12 kV12 dc12 pm12 cd12 ct12 : Value}
    (a12 : PySem.W.nsIn K mainGlobals "_law_name_by" = some (some (.ref f12))) (l12 : K.lookup f12 = some ⟨oc12, od12, .func (PySem.W.fnOf "_law_name_by" "_law_name_by" (defArgs s__law_name_by) (defBody s__law_name_by) (defScope s__law_name_by) .none kV12 dc12 pm12 an12 cd12 ct12), sl12⟩) (c12 : PySem.W.codeIn K cd12 "_law_name_by" = true) (k12 : PySem.W.keepIn K (.ref f12) = true)
    {f13 : Addr} {od13 an13 : Option Addr} {sl13 : Array (Option Value)} {oc13 kV13 dc13 pm13 cd13 ct13 : Value}
    (a13 : PySem.W.nsIn K mainGlobals "_law_mark_by" = some (some (.ref f13))) (l13 : K.lookup f13 = some ⟨oc13, od13, .func (PySem.W.fnOf "_law_mark_by" "_law_mark_by" (defArgs s__law_mark_by) (defBody s__law_mark_by) (defScope s__law_mark_by) .none kV13 dc13 pm13 an13 cd13 ct13), sl13⟩) (c13 : PySem.W.codeIn K cd13 "_law_mark_by" = true) (k13 : PySem.W.keepIn K (.ref f13) = true)
    {f14 : Addr} {od14 an14 : Option Addr} {sl14 : Array (Option Value)} {oc14 kV14 dc14 pm14 cd14 ct14 : Value}
    (a14 : PySem.W.nsIn K mainGlobals "_law_leaf" = some (some (.ref f14))) (l14 : K.lookup f14 = some ⟨oc14, od14, .func (PySem.W.fnOf "_law_leaf" "_law_leaf" (defArgs s__law_leaf) (defBody s__law_leaf) (defScope s__law_leaf) .none kV14 dc14 pm14 an14 cd14 ct14), sl14⟩) (c14 : PySem.W.codeIn K cd14 "_law_leaf" = true) (k14 : PySem.W.keepIn K (.ref f14) = true)
    {f15 : Addr} {od15 an15 : Option Addr} {sl15 : Array (Option Value)} {oc15 kV15 dc15 pm15 cd15 ct15 : Value}
    (a15 : PySem.W.nsIn K mainGlobals "_law_gone_on" = some (some (.ref f15))) (l15 : K.lookup f15 = some ⟨oc15, od15, .func (PySem.W.fnOf "_law_gone_on" "_law_gone_on" (defArgs s__law_gone_on) (defBody s__law_gone_on) (defScope s__law_gone_on) .none kV15 dc15 pm15 an15 cd15 ct15), sl15⟩) (c15 : PySem.W.codeIn K cd15 "_law_gone_on" = true) (k15 : PySem.W.keepIn K (.ref f15) = true)
    {f16 : Addr} {od16 an16 : Option Addr} {sl16 : Array (Option Value)} {oc16 kV16 dc16 pm16 cd16 ct16 : Value}
    (a16 : PySem.W.nsIn K mainGlobals "_law_made" = some (some (.ref f16))) (l16 : K.lookup f16 = some ⟨oc16, od16, .func (PySem.W.fnOf "_law_made" "_law_made" (defArgs s__law_made) (defBody s__law_made) (defScope s__law_made) .none kV16 dc16 pm16 an16 cd16 ct16), sl16⟩) (c16 : PySem.W.codeIn K cd16 "_law_made" = true) (k16 : PySem.W.keepIn K (.ref f16) = true)
    {f17 : Addr} {od17 an17 : Option Addr} {sl17 : Array (Option Value)} {oc17 kV17 dc17 pm17 cd17 ct17 : Value}
    (a17 : PySem.W.nsIn K mainGlobals "_law_piece" = some (some (.ref f17))) (l17 : K.lookup f17 = some ⟨oc17, od17, .func (PySem.W.fnOf "_law_piece" "_law_piece" (defArgs s__law_piece) (defBody s__law_piece) (defScope s__law_piece) .none kV17 dc17 pm17 an17 cd17 ct17), sl17⟩) (c17 : PySem.W.codeIn K cd17 "_law_piece" = true) (k17 : PySem.W.keepIn K (.ref f17) = true)
    {f18 : Addr} {od18 an18 : Option Addr} {sl18 : Array (Option Value)} {oc18 kV18 dc18 pm18 cd18 ct18 : Value}
    (a18 : PySem.W.nsIn K mainGlobals "_law_value" = some (some (.ref f18))) (l18 : K.lookup f18 = some ⟨oc18, od18, .func (PySem.W.fnOf "_law_value" "_law_value" (defArgs s__law_value) (defBody s__law_value) (defScope s__law_value) .none kV18 dc18 pm18 an18 cd18 ct18), sl18⟩) (c18 : PySem.W.codeIn K cd18 "_law_value" = true) (k18 : PySem.W.keepIn K (.ref f18) = true)
    {f19 : Addr} {od19 an19 : Option Addr} {sl19 : Array (Option Value)} {oc19 kV19 dc19 pm19 cd19 ct19 : Value}
    (a19 : PySem.W.nsIn K mainGlobals "_law_put" = some (some (.ref f19))) (l19 : K.lookup f19 = some ⟨oc19, od19, .func (PySem.W.fnOf "_law_put" "_law_put" (defArgs s__law_put) (defBody s__law_put) (defScope s__law_put) .none kV19 dc19 pm19 an19 cd19 ct19), sl19⟩) (c19 : PySem.W.codeIn K cd19 "_law_put" = true) (k19 : PySem.W.keepIn K (.ref f19) = true)
    {f20 : Addr} {od20 an20 : Option Addr} {sl20 : Array (Option Value)} {oc20 kV20 dc20 pm20 cd20 ct20 : Value}
    (a20 : PySem.W.nsIn K mainGlobals "_law_inward" = some (some (.ref f20))) (l20 : K.lookup f20 = some ⟨oc20, od20, .func (PySem.W.fnOf "_law_inward" "_law_inward" (defArgs s__law_inward) (defBody s__law_inward) (defScope s__law_inward) .none kV20 dc20 pm20 an20 cd20 ct20), sl20⟩) (c20 : PySem.W.codeIn K cd20 "_law_inward" = true) (k20 : PySem.W.keepIn K (.ref f20) = true)
    {f21 : Addr} {od21 an21 : Option Addr} {sl21 : Array (Option Value)} {oc21 kV21 dc21 pm21 cd21 ct21 : Value}
    (a21 : PySem.W.nsIn K mainGlobals "_law_line" = some (some (.ref f21))) (l21 : K.lookup f21 = some ⟨oc21, od21, .func (PySem.W.fnOf "_law_line" "_law_line" (defArgs s__law_line) (defBody s__law_line) (defScope s__law_line) .none kV21 dc21 pm21 an21 cd21 ct21), sl21⟩) (c21 : PySem.W.codeIn K cd21 "_law_line" = true) (k21 : PySem.W.keepIn K (.ref f21) = true)
    {f22 : Addr} {od22 an22 : Option Addr} {sl22 : Array (Option Value)} {oc22 kV22 dc22 pm22 cd22 ct22 : Value}
    (a22 : PySem.W.nsIn K mainGlobals "_law_frame" = some (some (.ref f22))) (l22 : K.lookup f22 = some ⟨oc22, od22, .func (PySem.W.fnOf "_law_frame" "_law_frame" (defArgs s__law_frame) (defBody s__law_frame) (defScope s__law_frame) .none kV22 dc22 pm22 an22 cd22 ct22), sl22⟩) (c22 : PySem.W.codeIn K cd22 "_law_frame" = true) (k22 : PySem.W.keepIn K (.ref f22) = true)
    {f23 : Addr} {od23 an23 : Option Addr} {sl23 : Array (Option Value)} {oc23 kV23 dc23 pm23 cd23 ct23 : Value}
    (a23 : PySem.W.nsIn K mainGlobals "_law_about" = some (some (.ref f23))) (l23 : K.lookup f23 = some ⟨oc23, od23, .func (PySem.W.fnOf "_law_about" "_law_about" (defArgs s__law_about) (defBody s__law_about) (defScope s__law_about) .none kV23 dc23 pm23 an23 cd23 ct23), sl23⟩) (c23 : PySem.W.codeIn K cd23 "_law_about" = true) (k23 : PySem.W.keepIn K (.ref f23) = true)
    {f24 : Addr} {od24 an24 : Option Addr} {sl24 : Array (Option Value)} {oc24 kV24 dc24 pm24 cd24 ct24 : Value}
    (a24 : PySem.W.nsIn K mainGlobals "_law_in_frames" = some (some (.ref f24))) (l24 : K.lookup f24 = some ⟨oc24, od24, .func (PySem.W.fnOf "_law_in_frames" "_law_in_frames" (defArgs s__law_in_frames) (defBody s__law_in_frames) (defScope s__law_in_frames) .none kV24 dc24 pm24 an24 cd24 ct24), sl24⟩) (c24 : PySem.W.codeIn K cd24 "_law_in_frames" = true) (k24 : PySem.W.keepIn K (.ref f24) = true)
    {f25 : Addr} {od25 an25 : Option Addr} {sl25 : Array (Option Value)} {oc25 kV25 dc25 pm25 cd25 ct25 : Value}
    (a25 : PySem.W.nsIn K mainGlobals "_law_becomes" = some (some (.ref f25))) (l25 : K.lookup f25 = some ⟨oc25, od25, .func (PySem.W.fnOf "_law_becomes" "_law_becomes" (defArgs s__law_becomes) (defBody s__law_becomes) (defScope s__law_becomes) .none kV25 dc25 pm25 an25 cd25 ct25), sl25⟩) (c25 : PySem.W.codeIn K cd25 "_law_becomes" = true) (k25 : PySem.W.keepIn K (.ref f25) = true)
    {f26 : Addr} {od26 an26 : Option Addr} {sl26 : Array (Option Value)} {oc26 kV26 dc26 pm26 cd26 ct26 : Value}
    (a26 : PySem.W.nsIn K mainGlobals "_law_step" = some (some (.ref f26))) (l26 : K.lookup f26 = some ⟨oc26, od26, .func (PySem.W.fnOf "_law_step" "_law_step" (defArgs s__law_step) (defBody s__law_step) (defScope s__law_step) .none kV26 dc26 pm26 an26 cd26 ct26), sl26⟩) (c26 : PySem.W.codeIn K cd26 "_law_step" = true) (k26 : PySem.W.keepIn K (.ref f26) = true)
    {f27 : Addr} {od27 an27 : Option Addr} {sl27 : Array (Option Value)} {oc27 kV27 dc27 pm27 cd27 ct27 : Value}
    (a27 : PySem.W.nsIn K mainGlobals "law" = some (some (.ref f27))) (l27 : K.lookup f27 = some ⟨oc27, od27, .func (PySem.W.fnOf "law" "law" (defArgs s_law) (defBody s_law) (defScope s_law) .none kV27 dc27 pm27 an27 cd27 ct27), sl27⟩) (c27 : PySem.W.codeIn K cd27 "law" = true) (k27 : PySem.W.keepIn K (.ref f27) = true)
    (z_enumerate : PySem.W.nsIn K mainGlobals "enumerate" = some none)
    (z_int : PySem.W.nsIn K mainGlobals "int" = some none)
    (z_isinstance : PySem.W.nsIn K mainGlobals "isinstance" = some none)
    (z_len : PySem.W.nsIn K mainGlobals "len" = some none)
    (z_min : PySem.W.nsIn K mainGlobals "min" = some none)
    (z_range : PySem.W.nsIn K mainGlobals "range" = some none)
    (z_tuple : PySem.W.nsIn K mainGlobals "tuple" = some none)
    : ∃ fd : FuncData, (∀ (s : Shared) (v : Value), BindsTo s fd ⟨[v], []⟩ [("_law_script", v)]) ∧ ∀ base : Heap, K.In base → base.Ns mainGlobals mg → FnOk l.prog w K mg base CX0 231 fa fd ["_law_script"] (spLaw K) := by
  have e := hfa.symm.trans (PySem.W.mg_of X G a27)
  cases e
  have F0 := fun_mk (st := s_is_value) l0 c0 k0
  have D0 : DefOk K mg "is_value" s_is_value ["piece"] f0 _ := ⟨F0, F0.binds (ps := ["piece"]) fun _ _ _ _ _ _ us hl => match us, hl with | [_], _ => rfl, PySem.W.mg_of X G a0⟩
  have F1 := fun_mk (st := s_put_in) l1 c1 k1
  have D1 : DefOk K mg "put_in" s_put_in ["piece", "name", "value"] f1 _ := ⟨F1, F1.binds (ps := ["piece", "name", "value"]) fun _ _ _ _ _ _ us hl => match us, hl with | [_, _, _], _ => rfl, PySem.W.mg_of X G a1⟩
  have F2 := fun_mk (st := s_inner_of) l2 c2 k2
  have D2 : DefOk K mg "inner_of" s_inner_of ["piece"] f2 _ := ⟨F2, F2.binds (ps := ["piece"]) fun _ _ _ _ _ _ us hl => match us, hl with | [_], _ => rfl, PySem.W.mg_of X G a2⟩
  have F3 := fun_mk (st := s_parted) l3 c3 k3
  have D3 : DefOk K mg "parted" s_parted ["piece"] f3 _ := ⟨F3, F3.binds (ps := ["piece"]) fun _ _ _ _ _ _ us hl => match us, hl with | [_], _ => rfl, PySem.W.mg_of X G a3⟩
  have F4 := fun_mk (st := s_wrapped) l4 c4 k4
  have D4 : DefOk K mg "wrapped" s_wrapped ["frame", "piece"] f4 _ := ⟨F4, F4.binds (ps := ["frame", "piece"]) fun _ _ _ _ _ _ us hl => match us, hl with | [_, _], _ => rfl, PySem.W.mg_of X G a4⟩
  have F5 := fun_mk (st := s_plugged) l5 c5 k5
  have D5 : DefOk K mg "plugged" s_plugged ["frames", "piece"] f5 _ := ⟨F5, F5.binds (ps := ["frames", "piece"]) fun _ _ _ _ _ _ us hl => match us, hl with | [_, _], _ => rfl, PySem.W.mg_of X G a5⟩
  have F6 := fun_mk (st := s_to_round) l6 c6 k6
  have D6 : DefOk K mg "to_round" s_to_round ["frames"] f6 _ := ⟨F6, F6.binds (ps := ["frames"]) fun _ _ _ _ _ _ us hl => match us, hl with | [_], _ => rfl, PySem.W.mg_of X G a6⟩
  have F7 := fun_mk (st := s_called) l7 c7 k7
  have D7 : DefOk K mg "called" s_called ["here"] f7 _ := ⟨F7, F7.binds (ps := ["here"]) fun _ _ _ _ _ _ us hl => match us, hl with | [_], _ => rfl, PySem.W.mg_of X G a7⟩
  have F8 := fun_mk (st := s_done_here) l8 c8 k8
  have D8 : DefOk K mg "done_here" s_done_here ["here"] f8 _ := ⟨F8, F8.binds (ps := ["here"]) fun _ _ _ _ _ _ us hl => match us, hl with | [_], _ => rfl, PySem.W.mg_of X G a8⟩
  have F9 := fun_mk (st := s_stepped) l9 c9 k9
  have D9 : DefOk K mg "stepped" s_stepped ["piece"] f9 _ := ⟨F9, F9.binds (ps := ["piece"]) fun _ _ _ _ _ _ us hl => match us, hl with | [_], _ => rfl, PySem.W.mg_of X G a9⟩
  have F10 := fun_mk (st := s__law_cell_at) l10 c10 k10
  have D10 : DefOk K mg "_law_cell_at" s__law_cell_at ["_law_script", "_law_k"] f10 _ := ⟨F10, F10.binds (ps := ["_law_script", "_law_k"]) fun _ _ _ _ _ _ us hl => match us, hl with | [_, _], _ => rfl, PySem.W.mg_of X G a10⟩
  have F11 := fun_mk (st := s__law_mixed) l11 c11 k11
  have D11 : DefOk K mg "_law_mixed" s__law_mixed ["_law_number"] f11 _ := ⟨F11, F11.binds (ps := ["_law_number"]) fun _ _ _ _ _ _ us hl => match us, hl with | [_], _ => rfl, PySem.W.mg_of X G a11⟩
  have F12 := fun_mk (st := s__law_name_by) l12 c12 k12
  have D12 : DefOk K mg "_law_name_by" s__law_name_by ["_law_mix"] f12 _ := ⟨F12, F12.binds (ps := ["_law_mix"]) fun _ _ _ _ _ _ us hl => match us, hl with | [_], _ => rfl, PySem.W.mg_of X G a12⟩
  have F13 := fun_mk (st := s__law_mark_by) l13 c13 k13
  have D13 : DefOk K mg "_law_mark_by" s__law_mark_by ["_law_mix"] f13 _ := ⟨F13, F13.binds (ps := ["_law_mix"]) fun _ _ _ _ _ _ us hl => match us, hl with | [_], _ => rfl, PySem.W.mg_of X G a13⟩
  have F14 := fun_mk (st := s__law_leaf) l14 c14 k14
  have D14 : DefOk K mg "_law_leaf" s__law_leaf ["_law_mix", "_law_scope"] f14 _ := ⟨F14, F14.binds (ps := ["_law_mix", "_law_scope"]) fun _ _ _ _ _ _ us hl => match us, hl with | [_, _], _ => rfl, PySem.W.mg_of X G a14⟩
  have F15 := fun_mk (st := s__law_gone_on) l15 c15 k15
  have D15 : DefOk K mg "_law_gone_on" s__law_gone_on ["_law_script", "_law_state", "_law_deep", "_law_scope"] f15 _ := ⟨F15, F15.binds (ps := ["_law_script", "_law_state", "_law_deep", "_law_scope"]) fun _ _ _ _ _ _ us hl => match us, hl with | [_, _, _, _], _ => rfl, PySem.W.mg_of X G a15⟩
  have F16 := fun_mk (st := s__law_made) l16 c16 k16
  have D16 : DefOk K mg "_law_made" s__law_made ["_law_script", "_law_state", "_law_deep", "_law_scope"] f16 _ := ⟨F16, F16.binds (ps := ["_law_script", "_law_state", "_law_deep", "_law_scope"]) fun _ _ _ _ _ _ us hl => match us, hl with | [_, _, _, _], _ => rfl, PySem.W.mg_of X G a16⟩
  have F17 := fun_mk (st := s__law_piece) l17 c17 k17
  have D17 : DefOk K mg "_law_piece" s__law_piece ["_law_script", "_law_first", "_law_cell"] f17 _ := ⟨F17, F17.binds (ps := ["_law_script", "_law_first", "_law_cell"]) fun _ _ _ _ _ _ us hl => match us, hl with | [_, _, _], _ => rfl, PySem.W.mg_of X G a17⟩
  have F18 := fun_mk (st := s__law_value) l18 c18 k18
  have D18 : DefOk K mg "_law_value" s__law_value ["_law_piece_here"] f18 _ := ⟨F18, F18.binds (ps := ["_law_piece_here"]) fun _ _ _ _ _ _ us hl => match us, hl with | [_], _ => rfl, PySem.W.mg_of X G a18⟩
  have F19 := fun_mk (st := s__law_put) l19 c19 k19
  have D19 : DefOk K mg "_law_put" s__law_put ["_law_piece_here", "_law_name", "_law_value_here"] f19 _ := ⟨F19, F19.binds (ps := ["_law_piece_here", "_law_name", "_law_value_here"]) fun _ _ _ _ _ _ us hl => match us, hl with | [_, _, _], _ => rfl, PySem.W.mg_of X G a19⟩
  have F20 := fun_mk (st := s__law_inward) l20 c20 k20
  have D20 : DefOk K mg "_law_inward" s__law_inward ["_law_piece_here"] f20 _ := ⟨F20, F20.binds (ps := ["_law_piece_here"]) fun _ _ _ _ _ _ us hl => match us, hl with | [_], _ => rfl, PySem.W.mg_of X G a20⟩
  have F21 := fun_mk (st := s__law_line) l21 c21 k21
  have D21 : DefOk K mg "_law_line" s__law_line ["_law_piece_here"] f21 _ := ⟨F21, F21.binds (ps := ["_law_piece_here"]) fun _ _ _ _ _ _ us hl => match us, hl with | [_], _ => rfl, PySem.W.mg_of X G a21⟩
  have F22 := fun_mk (st := s__law_frame) l22 c22 k22
  have D22 : DefOk K mg "_law_frame" s__law_frame ["_law_piece_here", "_law_k"] f22 _ := ⟨F22, F22.binds (ps := ["_law_piece_here", "_law_k"]) fun _ _ _ _ _ _ us hl => match us, hl with | [_, _], _ => rfl, PySem.W.mg_of X G a22⟩
  have F23 := fun_mk (st := s__law_about) l23 c23 k23
  have D23 : DefOk K mg "_law_about" s__law_about ["_law_line_here", "_law_inner"] f23 _ := ⟨F23, F23.binds (ps := ["_law_line_here", "_law_inner"]) fun _ _ _ _ _ _ us hl => match us, hl with | [_, _], _ => rfl, PySem.W.mg_of X G a23⟩
  have F24 := fun_mk (st := s__law_in_frames) l24 c24 k24
  have D24 : DefOk K mg "_law_in_frames" s__law_in_frames ["_law_frames", "_law_inner"] f24 _ := ⟨F24, F24.binds (ps := ["_law_frames", "_law_inner"]) fun _ _ _ _ _ _ us hl => match us, hl with | [_, _], _ => rfl, PySem.W.mg_of X G a24⟩
  have F25 := fun_mk (st := s__law_becomes) l25 c25 k25
  have D25 : DefOk K mg "_law_becomes" s__law_becomes ["_law_here"] f25 _ := ⟨F25, F25.binds (ps := ["_law_here"]) fun _ _ _ _ _ _ us hl => match us, hl with | [_], _ => rfl, PySem.W.mg_of X G a25⟩
  have F26 := fun_mk (st := s__law_step) l26 c26 k26
  have D26 : DefOk K mg "_law_step" s__law_step ["_law_piece_here"] f26 _ := ⟨F26, F26.binds (ps := ["_law_piece_here"]) fun _ _ _ _ _ _ us hl => match us, hl with | [_], _ => rfl, PySem.W.mg_of X G a26⟩
  have F27 := fun_mk (st := s_law) l27 c27 k27
  have mb : Mb mg := ⟨PySem.W.mg_none_of X G z_enumerate, PySem.W.mg_none_of X G z_int, PySem.W.mg_none_of X G z_isinstance, PySem.W.mg_none_of X G z_len, PySem.W.mg_none_of X G z_min, PySem.W.mg_none_of X G z_range, PySem.W.mg_none_of X G z_tuple⟩
  refine ⟨PySem.W.fnOf "law" "law" (defArgs s_law) (defBody s_law) (defScope s_law) .none kV27 dc27 pm27 an27 cd27 ct27, fun s v => .of_eq rfl, fun base _ _ => ?_⟩
  exact law_imp hT (ok_law (C := 0) F27 (all_ok D0 D1 D2 D3 D4 D5 D6 D7 D8 D9 D10 D11 D12 D13 D14 D15 D16 D17 D18 D19 D20 D21 D22 D23 D24 D25 D26 mb 230) mb)
theorem walk {l : PySem.W.OpenLaw} {q : Program} {loose : List Str} {XP : (Str → Option Value) → Heap → Prop} {YP : World → Heap → Prop} {d : DefRec} {K : Params → PySem.W.Frag} (hn : l.most = some 63) (hdf : d.params.defaults = [])
    (hY : ∀ (w : World) (h : Heap), YP w h → (K w.params).In h)
    (F : ∀ (w : World) (mg : Str → Option Value) (fa : Addr) (h : Heap), (K w.params).In h → h.Ns mainGlobals mg → mg d.name = some (.ref fa) →
      ∃ fd : FuncData, (∀ (s : Shared) (u : Value), BindsTo s fd ⟨[u], []⟩ [("_law_script", u)]) ∧ ∀ base : Heap, (K w.params).In base → base.Ns mainGlobals mg → FnOk l.prog w (K w.params) mg base CX0 231 fa fd ["_law_script"] (spLaw (K w.params))) :
    PySem.W.WalkO q loose XP YP l.row.toRowW d [] (fun f vs => PySem.call f vs) :=
  L2.walk_of (n := 63) (k := 231) (x := "_law_script") (CX := fun _ => CX0) (sp := fun w => spLaw (K w.params)) hn (by decide) hdf ⟨rfl, by decide, by decide⟩ hY F (fun _ _ a ns hl ho hS => ⟨a, ns, rfl, sqF_of ho hS, hl, fun _ => rfl⟩) fun _ _ _ _ _ z => z
end Cb
open PySem PySem.W PyProof.Rows
set_option maxRecDepth 100000 in
set_option maxHeartbeats 0 in
theorem PySem.Challenge.cw_cutback_k03_one_step_holds : PySem.Challenge.rw_cutback_k03_one_step.Holds := by
  w_on; o_law; k_head; (case hw => w_witness2)
  k_fill
  refine Cb.walk (l := PySem.Challenge.rw_cutback_k03_one_step) rfl rfl (fun w h Y => PySem.W.kIn_of Y) ?F
  case F =>
    intro w mg fa h KX G hmg
    refine' Cb.all_mk Cb.law_true KX G hmg ?a0 ?l0 ?c0 ?k0 ?a1 ?l1 ?c1 ?k1 ?a2 ?l2 ?c2 ?k2 ?a3 ?l3 ?c3 ?k3 ?a4 ?l4 ?c4 ?k4 ?a5 ?l5 ?c5 ?k5 ?a6 ?l6 ?c6 ?k6 ?a7 ?l7 ?c7 ?k7 ?a8 ?l8 ?c8 ?k8 ?a9 ?l9 ?c9 ?k9 ?a10 ?l10 ?c10 ?k10 ?a11 ?l11 ?c11 ?k11 ?a12 ?l12 ?c12 ?k12 ?a13 ?l13 ?c13 ?k13 ?a14 ?l14 ?c14 ?k14 ?a15 ?l15 ?c15 ?k15 ?a16 ?l16 ?c16 ?k16 ?a17 ?l17 ?c17 ?k17 ?a18 ?l18 ?c18 ?k18 ?a19 ?l19 ?c19 ?k19 ?a20 ?l20 ?c20 ?k20 ?a21 ?l21 ?c21 ?k21 ?a22 ?l22 ?c22 ?k22 ?a23 ?l23 ?c23 ?k23 ?a24 ?l24 ?c24 ?k24 ?a25 ?l25 ?c25 ?k25 ?a26 ?l26 ?c26 ?k26 ?a27 ?l27 ?c27 ?k27 ?z_enumerate ?z_int ?z_isinstance ?z_len ?z_min ?z_range ?z_tuple
    (case a0 => k_is)
    (case l0 => k_is)
    (case c0 => k_is)
    (case k0 => k_is)
    (case a1 => k_is)
    (case l1 => k_is)
    (case c1 => k_is)
    (case k1 => k_is)
    (case a2 => k_is)
    (case l2 => k_is)
    (case c2 => k_is)
    (case k2 => k_is)
    (case a3 => k_is)
    (case l3 => k_is)
    (case c3 => k_is)
    (case k3 => k_is)
    (case a4 => k_is)
    (case l4 => k_is)
    (case c4 => k_is)
    (case k4 => k_is)
    (case a5 => k_is)
    (case l5 => k_is)
    (case c5 => k_is)
    (case k5 => k_is)
    (case a6 => k_is)
    (case l6 => k_is)
    (case c6 => k_is)
    (case k6 => k_is)
    (case a7 => k_is)
    (case l7 => k_is)
    (case c7 => k_is)
    (case k7 => k_is)
    (case a8 => k_is)
    (case l8 => k_is)
    (case c8 => k_is)
    (case k8 => k_is)
    (case a9 => k_is)
    (case l9 => k_is)
    (case c9 => k_is)
    (case k9 => k_is)
    (case a10 => k_is)
    (case l10 => k_is)
    (case c10 => k_is)
    (case k10 => k_is)
    (case a11 => k_is)
    (case l11 => k_is)
    (case c11 => k_is)
    (case k11 => k_is)
    (case a12 => k_is)
    (case l12 => k_is)
    (case c12 => k_is)
    (case k12 => k_is)
    (case a13 => k_is)
    (case l13 => k_is)
    (case c13 => k_is)
    (case k13 => k_is)
    (case a14 => k_is)
    (case l14 => k_is)
    (case c14 => k_is)
    (case k14 => k_is)
    (case a15 => k_is)
    (case l15 => k_is)
    (case c15 => k_is)
    (case k15 => k_is)
    (case a16 => k_is)
    (case l16 => k_is)
    (case c16 => k_is)
    (case k16 => k_is)
    (case a17 => k_is)
    (case l17 => k_is)
    (case c17 => k_is)
    (case k17 => k_is)
    (case a18 => k_is)
    (case l18 => k_is)
    (case c18 => k_is)
    (case k18 => k_is)
    (case a19 => k_is)
    (case l19 => k_is)
    (case c19 => k_is)
    (case k19 => k_is)
    (case a20 => k_is)
    (case l20 => k_is)
    (case c20 => k_is)
    (case k20 => k_is)
    (case a21 => k_is)
    (case l21 => k_is)
    (case c21 => k_is)
    (case k21 => k_is)
    (case a22 => k_is)
    (case l22 => k_is)
    (case c22 => k_is)
    (case k22 => k_is)
    (case a23 => k_is)
    (case l23 => k_is)
    (case c23 => k_is)
    (case k23 => k_is)
    (case a24 => k_is)
    (case l24 => k_is)
    (case c24 => k_is)
    (case k24 => k_is)
    (case a25 => k_is)
    (case l25 => k_is)
    (case c25 => k_is)
    (case k25 => k_is)
    (case a26 => k_is)
    (case l26 => k_is)
    (case c26 => k_is)
    (case k26 => k_is)
    (case a27 => k_is)
    (case l27 => k_is)
    (case c27 => k_is)
    (case k27 => k_is)
    (case z_enumerate => k_is)
    (case z_int => k_is)
    (case z_isinstance => k_is)
    (case z_len => k_is)
    (case z_min => k_is)
    (case z_range => k_is)
    (case z_tuple => k_is)
#print axioms PySem.Challenge.cw_cutback_k03_one_step_holds
