import PyProof.Rows.All
import Wide.All
import OpenK.AllK
import Wide.FinOn
import HandS.ForMost
import HandS.Zip
import HandS.TupAny
import HandS.Flow
import HandS.IsInst
import HandS.Conv
import HandS.Wide
import HandS.Style
import HandS.Deep
import KE.GoesNew
import KE.GoesMore
import HandS.Strs
import HandS.TryOnly
import PySem.Challenge.RW_cutback_k07_plain_terms_run
set_option Elab.async false
set_option linter.all false
set_option maxRecDepth 100000
set_option maxHeartbeats 4000000
namespace Cb
open PySem L2

/-! ## data, without addresses -/
inductive D where
  | non | bl (b : Bool) | int (i : Int) | str (x : Str)
  | tup (xs : List D) | lst (xs : List D) | scr (ns : List Int) | dic (ks : List (Key × D)) | ref (n : Nat)
  /-- a tuple that surely has no dict; a def of the main module -/
  | tun (xs : List D) | fn (x : Str)
inductive O where
  | lst (xs : List D) | dic (ks : List (Key × D)) | ins (fs : List (Str × D))
instance : Inhabited D := ⟨.non⟩

/-- the law's list: never written -/
def SqF (K : PySem.W.Frag) (H : Hp) (a : Addr) (xs : List V) : Prop :=
  (∃ o, H a = some (.frz o (.lst xs))) ∨
    ∃ (o : Obj) (its : Array Value) (n : Nat), K.lookup a = some o ∧ o.cls = .type "list" ∧ o.dict = none ∧ o.data = .seq its n ∧ its.size ≤ sizeLine ∧ Vals xs its.toList
theorem SqF.sq {K : PySem.W.Frag} {H : Hp} {a : Addr} {xs : List V} (h : SqF K H a xs) : SqL K H a xs := by
  rcases h with h | h
  · exact .inl (.inr h)
  · exact .inr h

/-- the addresses of the changing objects, by number; those that are hidden (a comprehension's list while it grows) -/
structure M where
  l : List Addr
  b : List Addr
def M.has (m : M) (a : Addr) : Prop := a ∈ m.l ∨ a ∈ m.b
def M.add (m : M) (a : Addr) : M := ⟨m.l ++ [a], m.b⟩
def M.hide (m : M) (a : Addr) : M := ⟨m.l, a :: m.b⟩

mutual
inductive Rp (K : PySem.W.Frag) (m : M) (H : Hp) : V → D → Prop
  | non : Rp K m H .non .non
  | bl (b : Bool) : Rp K m H (.bl b) (.bl b)
  | int (i : Int) : Rp K m H (.int i) (.int i)
  | str (x : Str) : Rp K m H (.str x) (.str x)
  | tup {a : Addr} {xs : List V} {ds : List D} : SqT K H a xs → RpAll K m H xs ds → Rp K m H (.ref a) (.tup ds)
  | lst {a : Addr} {xs : List V} {ds : List D} : H a = some (.lst xs) → ¬ m.has a → RpAll K m H xs ds → Rp K m H (.ref a) (.lst ds)
  | scr {a : Addr} {ns : List Int} : SqF K H a (ns.map V.int) → Rp K m H (.ref a) (.scr ns)
  | dic {a : Addr} {kvs : List (Key × V)} {ks : List (Key × D)} : H a = some (.dK kvs) → ¬ m.has a → kvs.map (·.1) = ks.map (·.1) → RpAll K m H (kvs.map (·.2)) (ks.map (·.2)) → Rp K m H (.ref a) (.dic ks)
  | ref {a : Addr} {n : Nat} : m.l[n]? = some a → Rp K m H (.ref a) (.ref n)
  | tun {a : Addr} {ob : Obj} {xs : List V} {ds : List D} : H a = some (.frz ob (.tup xs)) → ob.dict = Option.none → ob.cls = .type "tuple" → RpAll K m H xs ds → Rp K m H (.ref a) (.tun ds)
  | fn {a : Addr} {x : Str} : PySem.W.nsIn K mainGlobals x = some (some (.ref a)) → Rp K m H (.ref a) (.fn x)
inductive RpAll (K : PySem.W.Frag) (m : M) (H : Hp) : List V → List D → Prop
  | nil : RpAll K m H [] []
  | cons {v : V} {vs : List V} {d : D} {ds : List D} : Rp K m H v d → RpAll K m H vs ds → RpAll K m H (v :: vs) (d :: ds)
end

/-- what may happen to a heap and its changing objects -/
structure Ev (m : M) (H : Hp) (m' : M) (H' : Hp) : Prop where
  pre : ∃ l, m'.l = m.l ++ l
  hid : m'.b = m.b
  new : ∀ a, a ∈ m'.l → a ∈ m.l ∨ H a = none
  keep : ∀ a o, H a = some o → a ∉ m.l → H' a = some o
  tup : ∀ a xs, H a = some (.tup xs) → H' a = some (.tup xs)
  frz : ∀ a o u, H a = some (.frz o u) → H' a = some (.frz o u)

section
variable {K : PySem.W.Frag} {m m' m'' : M} {H H' H'' : Hp}
theorem Ev.refl : Ev m H m H := ⟨⟨[], by simp⟩, rfl, fun _ h => .inl h, fun _ _ h _ => h, fun _ _ h => h, fun _ _ _ h => h⟩
theorem Ev.trans (a : Ev m H m' H') (b : Ev m' H' m'' H'') : Ev m H m'' H'' where
  pre := by
    obtain ⟨l, e⟩ := a.pre
    obtain ⟨l', e'⟩ := b.pre
    exact ⟨l ++ l', by rw [e', e, List.append_assoc]⟩
  hid := b.hid.trans a.hid
  new := fun x hx => by
    rcases b.new x hx with h | h
    · exact a.new x h
    · by_cases hm : x ∈ m.l
      · exact .inl hm
      · cases e : H x with
        | none => exact .inr rfl
        | some o => rw [a.keep x o e hm] at h; cases h
  keep := fun x o h hm => by
    have h1 := a.keep x o h hm
    refine b.keep x o h1 fun hx => ?_
    rcases a.new x hx with q | q
    · exact hm q
    · rw [h] at q; cases q
  tup := fun x xs h => b.tup x xs (a.tup x xs h)
  frz := fun x o u h => b.frz x o u (a.frz x o u h)
/-- a new object, not a changing one -/
theorem Ev.lay {p : Addr} {o : HO} (h : H p = none) : Ev m H m (upd H p o) :=
  ⟨⟨[], by simp⟩, rfl, fun _ h => .inl h, fun a u q _ => by rw [upd_ne (ne_of_none q h)]; exact q, fun a u q => by rw [upd_ne (ne_of_none q h)]; exact q, fun a u v q => by rw [upd_ne (ne_of_none q h)]; exact q⟩
/-- a new object is made a changing one -/
theorem Ev.add {p : Addr} (e : Ev m H m' H') (h : H p = none) : Ev m H (m'.add p) H' where
  pre := by
    obtain ⟨l, q⟩ := e.pre
    exact ⟨l ++ [p], by show m'.l ++ [p] = _; rw [q, List.append_assoc]⟩
  hid := e.hid
  new := fun a ha => by
    rcases List.mem_append.mp ha with q | q
    · exact e.new a q
    · rw [List.mem_singleton] at q; subst q; exact .inr h
  keep := e.keep
  tup := e.tup
  frz := e.frz
/-- a changing object is changed -/
theorem Ev.set {p : Addr} {o u : HO} (hp : p ∈ m.l) (h : H p = some u) (ht : ∀ xs, u ≠ .tup xs) (hf : ∀ o v, u ≠ .frz o v) : Ev m H m (upd H p o) :=
  ⟨⟨[], by simp⟩, rfl, fun _ h => .inl h, fun a v q hm => by rw [upd_ne (fun e => hm (by rw [e]; exact hp))]; exact q,
    fun a v q => by
      rw [upd_ne (fun e => by subst e; rw [h] at q; exact ht _ (Option.some.inj q))]; exact q,
    fun a v w q => by
      rw [upd_ne (fun e => by subst e; rw [h] at q; exact hf _ _ (Option.some.inj q))]; exact q⟩
theorem Ev.sqT (e : Ev m H m' H') {a : Addr} {xs : List V} (h : SqT K H a xs) : SqT K H' a xs := by
  rcases h with (h | ⟨o, h⟩) | h
  · exact .inl (.inl (e.tup _ _ h))
  · exact .inl (.inr ⟨o, e.frz _ _ _ h⟩)
  · exact .inr h
theorem Ev.sqF (e : Ev m H m' H') {a : Addr} {xs : List V} (h : SqF K H a xs) : SqF K H' a xs := by
  rcases h with ⟨o, h⟩ | h
  · exact .inl ⟨o, e.frz _ _ _ h⟩
  · exact .inr h
theorem Ev.notin (e : Ev m H m' H') {a : Addr} {o : HO} (h : H a = some o) (hm : ¬ m.has a) : ¬ m'.has a := fun q => by
  rcases q with q | q
  · rcases e.new a q with x | x
    · exact hm (.inl x)
    · rw [h] at x; cases x
  · rw [e.hid] at q
    exact hm (.inr q)
theorem Ev.at (e : Ev m H m' H') {n : Nat} {a : Addr} (h : m.l[n]? = some a) : m'.l[n]? = some a := by
  obtain ⟨l, q⟩ := e.pre
  rw [q]
  have hl : n < m.l.length := (List.getElem?_eq_some_iff.mp h).1
  rw [List.getElem?_append_left hl]
  exact h
mutual
theorem Rp.ev (e : Ev m H m' H') : ∀ {v : V} {d : D}, Rp K m H v d → Rp K m' H' v d
  | _, _, .non => .non
  | _, _, .bl b => .bl b
  | _, _, .int i => .int i
  | _, _, .str x => .str x
  | _, _, .tup h r => .tup (e.sqT h) (RpAll.ev e r)
  | _, _, .lst h n r => .lst (e.keep _ _ h fun z => n (.inl z)) (e.notin h n) (RpAll.ev e r)
  | _, _, .scr h => .scr (e.sqF h)
  | _, _, .dic h n k r => .dic (e.keep _ _ h fun z => n (.inl z)) (e.notin h n) k (RpAll.ev e r)
  | _, _, .ref h => .ref (e.at h)
  | _, _, .tun h h1 h2 r => .tun (e.frz _ _ _ h) h1 h2 (RpAll.ev e r)
  | _, _, .fn h => .fn h
theorem RpAll.ev (e : Ev m H m' H') : ∀ {vs : List V} {ds : List D}, RpAll K m H vs ds → RpAll K m' H' vs ds
  | _, _, .nil => .nil
  | _, _, .cons r rs => .cons (Rp.ev e r) (RpAll.ev e rs)
end
theorem RpAll.length : ∀ {vs : List V} {ds : List D}, RpAll K m H vs ds → vs.length = ds.length
  | _, _, .nil => rfl
  | _, _, .cons _ rs => by simp [RpAll.length rs]
theorem RpAll.get : ∀ {vs : List V} {ds : List D} {i : Nat} {d : D}, RpAll K m H vs ds → ds[i]? = some d → ∃ v, vs[i]? = some v ∧ Rp K m H v d
  | _, _, _, _, .nil, h => by simp at h
  | _, _, 0, _, .cons r _, h => ⟨_, rfl, by simp at h; subst h; exact r⟩
  | _, _, i + 1, _, .cons _ rs, h => by
    obtain ⟨v, h1, h2⟩ := RpAll.get (i := i) rs (by simpa using h)
    exact ⟨v, by simpa using h1, h2⟩
theorem RpAll.get' : ∀ {vs : List V} {ds : List D} {i : Nat} {v : V}, RpAll K m H vs ds → vs[i]? = some v → ∃ d, ds[i]? = some d ∧ Rp K m H v d
  | _, _, _, _, .nil, h => by simp at h
  | _, _, 0, _, .cons r _, h => ⟨_, rfl, by simp at h; subst h; exact r⟩
  | _, _, i + 1, _, .cons _ rs, h => by
    obtain ⟨v, h1, h2⟩ := RpAll.get' (i := i) rs (by simpa using h)
    exact ⟨v, by simpa using h1, h2⟩
theorem RpAll.append : ∀ {vs ws : List V} {ds es : List D}, RpAll K m H vs ds → RpAll K m H ws es → RpAll K m H (vs ++ ws) (ds ++ es)
  | _, _, _, _, .nil, s => s
  | _, _, _, _, .cons r rs, s => .cons r (RpAll.append rs s)
theorem RpAll.take : ∀ {vs : List V} {ds : List D} (n : Nat), RpAll K m H vs ds → RpAll K m H (vs.take n) (ds.take n)
  | _, _, 0, _ => .nil
  | _, _, _ + 1, .nil => .nil
  | _, _, n + 1, .cons r rs => .cons r (RpAll.take n rs)
theorem RpAll.drop : ∀ {vs : List V} {ds : List D} (n : Nat), RpAll K m H vs ds → RpAll K m H (vs.drop n) (ds.drop n)
  | _, _, 0, r => r
  | _, _, _ + 1, .nil => .nil
  | _, _, n + 1, .cons _ rs => RpAll.drop n rs
theorem RpAll.reverse {vs : List V} {ds : List D} (h : RpAll K m H vs ds) : RpAll K m H vs.reverse ds.reverse := by
  induction vs generalizing ds with
  | nil => cases h; exact .nil
  | cons v vs ih =>
    cases h with
    | cons r rs =>
      rw [List.reverse_cons, List.reverse_cons]
      exact (ih rs).append (.cons r .nil)
theorem RpAll.set {v : V} {d : D} (r : Rp K m H v d) : ∀ {vs : List V} {ds : List D} (i : Nat), RpAll K m H vs ds → RpAll K m H (vs.set i v) (ds.set i d)
  | _, _, _, .nil => .nil
  | _, _, 0, .cons _ t => .cons r t
  | _, _, i + 1, .cons q t => .cons q (RpAll.set r i t)
theorem RpAll.ints : ∀ (ns : List Int), RpAll K m H (ns.map V.int) (ns.map D.int)
  | [] => .nil
  | n :: ns => .cons (.int n) (RpAll.ints ns)
theorem RpAll.strs : ∀ (ns : List Str), RpAll K m H (ns.map V.str) (ns.map D.str)
  | [] => .nil
  | n :: ns => .cons (.str n) (RpAll.strs ns)

mutual
/-- other numbers, other hidden ones: as long as the same addresses are met -/
theorem Rp.re (hl : ∀ (n : Nat) a, m.l[n]? = some a → m'.l[n]? = some a) (hb : ∀ a, ¬ m.has a → ¬ m'.has a) : ∀ {v : V} {d : D}, Rp K m H v d → Rp K m' H v d
  | _, _, .non => .non
  | _, _, .bl b => .bl b
  | _, _, .int i => .int i
  | _, _, .str x => .str x
  | _, _, .tup h r => .tup h (RpAll.re hl hb r)
  | _, _, .lst h n r => .lst h (hb _ n) (RpAll.re hl hb r)
  | _, _, .scr h => .scr h
  | _, _, .dic h n k r => .dic h (hb _ n) k (RpAll.re hl hb r)
  | _, _, .ref h => .ref (hl _ _ h)
  | _, _, .tun h h1 h2 r => .tun h h1 h2 (RpAll.re hl hb r)
  | _, _, .fn h => .fn h
theorem RpAll.re (hl : ∀ (n : Nat) a, m.l[n]? = some a → m'.l[n]? = some a) (hb : ∀ a, ¬ m.has a → ¬ m'.has a) : ∀ {vs : List V} {ds : List D}, RpAll K m H vs ds → RpAll K m' H vs ds
  | _, _, .nil => .nil
  | _, _, .cons r rs => .cons (Rp.re hl hb r) (RpAll.re hl hb rs)
end
mutual
/-- a new address is hidden, the heap above stays -/
theorem Rp.hide {p : Addr} (hp : H p = none) (e : Ev m H m H') : ∀ {v : V} {d : D}, Rp K m H v d → Rp K (m.hide p) H' v d
  | _, _, .non => .non
  | _, _, .bl b => .bl b
  | _, _, .int i => .int i
  | _, _, .str x => .str x
  | _, _, .tup h r => .tup (e.sqT h) (RpAll.hide hp e r)
  | _, _, .lst h n r => .lst (e.keep _ _ h fun z => n (.inl z)) (fun z => by
      rcases z with z | z
      · exact n (.inl z)
      · rcases List.mem_cons.mp z with q | q
        · subst q; rw [h] at hp; cases hp
        · exact n (.inr q)) (RpAll.hide hp e r)
  | _, _, .scr h => .scr (e.sqF h)
  | _, _, .dic h n k r => .dic (e.keep _ _ h fun z => n (.inl z)) (fun z => by
      rcases z with z | z
      · exact n (.inl z)
      · rcases List.mem_cons.mp z with q | q
        · subst q; rw [h] at hp; cases hp
        · exact n (.inr q)) k (RpAll.hide hp e r)
  | _, _, .ref h => .ref h
  | _, _, .tun h h1 h2 r => .tun (e.frz _ _ _ h) h1 h2 (RpAll.hide hp e r)
  | _, _, .fn h => .fn h
theorem RpAll.hide {p : Addr} (hp : H p = none) (e : Ev m H m H') : ∀ {vs : List V} {ds : List D}, RpAll K m H vs ds → RpAll K (m.hide p) H' vs ds
  | _, _, .nil => .nil
  | _, _, .cons r rs => .cons (Rp.hide hp e r) (RpAll.hide hp e rs)
end
/-- one changing object -/
def RO (C : Addr) (K : PySem.W.Frag) (m : M) (H : Hp) (a : Addr) : O → Prop
  | .lst ds => ∃ xs, H a = some (.lst xs) ∧ RpAll K m H xs ds
  | .dic ks => ∃ kvs, H a = some (.dK kvs) ∧ kvs.map (·.1) = ks.map (·.1) ∧ RpAll K m H (kvs.map (·.2)) (ks.map (·.2))
  | .ins fs => ∃ dx gs, H a = some (.ins C dx gs) ∧ gs.map (·.1) = fs.map (·.1) ∧ RpAll K m H (gs.map (·.2)) (fs.map (·.2))
structure SR (C : Addr) (K : PySem.W.Frag) (m : M) (H : Hp) (S : List O) : Prop where
  nd : m.l.Nodup
  len : m.l.length = S.length
  obj : ∀ (n : Nat) a o, m.l[n]? = some a → S[n]? = some o → RO C K m H a o
  hid : ∀ a, a ∈ m.b → H a ≠ none
  apt : ∀ a, a ∈ m.b → a ∉ m.l
theorem RO.ev {C a : Addr} {o : O} (e : Ev m H m' H') (h : RO C K m H a o) (k : H' a = H a) : RO C K m' H' a o := by
  cases o with
  | lst ds => obtain ⟨xs, h1, h2⟩ := h; exact ⟨xs, by rw [k]; exact h1, h2.ev e⟩
  | dic ks => obtain ⟨xs, h1, h2, h3⟩ := h; exact ⟨xs, by rw [k]; exact h1, h2, h3.ev e⟩
  | ins fs => obtain ⟨dx, gs, h1, h2, h3⟩ := h; exact ⟨dx, gs, by rw [k]; exact h1, h2, h3.ev e⟩
theorem RO.some {C a : Addr} {o : O} (h : RO C K m H a o) : ∃ u, H a = some u := by
  cases o with
  | lst ds => obtain ⟨xs, h1, h2⟩ := h; exact ⟨_, h1⟩
  | dic ks => obtain ⟨xs, h1, h2, h3⟩ := h; exact ⟨_, h1⟩
  | ins fs => obtain ⟨dx, gs, h1, h2, h3⟩ := h; exact ⟨_, h1⟩
theorem SR.mem {C : Addr} {S : List O} (s : SR C K m H S) {a : Addr} (h : a ∈ m.l) : ∃ (n : Nat) (o : O), m.l[n]? = some a ∧ S[n]? = some o ∧ RO C K m H a o := by
  obtain ⟨n, hn, e⟩ := List.mem_iff_getElem.mp h
  have h1 : m.l[n]? = some a := by rw [List.getElem?_eq_getElem hn, e]
  have hn2 : n < S.length := by rw [← s.len]; exact hn
  exact ⟨n, S[n], h1, List.getElem?_eq_getElem hn2, s.obj n a _ h1 (List.getElem?_eq_getElem hn2)⟩
theorem SR.notl {C : Addr} {S : List O} (s : SR C K m H S) {p : Addr} (h : H p = none) : p ∉ m.l := fun q => by
  obtain ⟨n, o, _, _, r⟩ := s.mem q
  obtain ⟨u, e⟩ := r.some
  rw [h] at e; cases e
theorem SR.notin {C : Addr} {S : List O} (s : SR C K m H S) {p : Addr} (h : H p = none) : ¬ m.has p := fun q => by
  rcases q with q | q
  · exact s.notl h q
  · exact s.hid p q h
theorem SR.nottup {C : Addr} {S : List O} (s : SR C K m H S) {a : Addr} (q : a ∈ m.l) : ∃ u, H a = some u ∧ (∀ xs, u ≠ .tup xs) ∧ ∀ o v, u ≠ .frz o v := by
  obtain ⟨n, o, _, _, r⟩ := s.mem q
  cases o with
  | lst ds => obtain ⟨xs, h1, h2⟩ := r; exact ⟨_, h1, (fun _ z => nomatch z), fun _ _ z => nomatch z⟩
  | dic ks => obtain ⟨xs, h1, h2, h3⟩ := r; exact ⟨_, h1, (fun _ z => nomatch z), fun _ _ z => nomatch z⟩
  | ins fs => obtain ⟨dx, gs, h1, h2, h3⟩ := r; exact ⟨_, h1, (fun _ z => nomatch z), fun _ _ z => nomatch z⟩
/-- a new object leaves the changing ones as they were -/
theorem SR.lay {C : Addr} {S : List O} (s : SR C K m H S) {p : Addr} {o : HO} (h : H p = none) : SR C K m (upd H p o) S :=
  ⟨s.nd, s.len, fun n a o' h1 h2 => by
    have r := s.obj n a o' h1 h2
    obtain ⟨u, e⟩ := r.some
    exact r.ev (.lay h) (upd_ne (ne_of_none e h)), fun a ha => by
      by_cases e : a = p
      · rw [e, upd_same]; exact fun z => nomatch z
      · rw [upd_ne e]; exact s.hid a ha, s.apt⟩
theorem nodup_snoc {α : Type} {l : List α} {a : α} (h : l.Nodup) (hm : a ∉ l) : (l ++ [a]).Nodup := by
  rw [List.nodup_append]
  exact ⟨h, by simp, fun x hx y hy => by rw [List.mem_singleton] at hy; subst hy; exact fun e => hm (e ▸ hx)⟩
theorem add_at (m : M) {n : Nat} {a p : Addr} (h : m.l[n]? = Option.some a) : (m.add p).l[n]? = Option.some a := by
  have hl : n < m.l.length := (List.getElem?_eq_some_iff.mp h).1
  show (m.l ++ [p])[n]? = _
  rw [List.getElem?_append_left hl]
  exact h
/-- an object that stands already is made a changing one -/
theorem SR.add {C : Addr} {S : List O} (s : SR C K m H S) {p : Addr} {ob : O} (hp : ¬ m.has p) (hb : ∀ (n : Nat) a o, m.l[n]? = some a → S[n]? = some o → RO C K (m.add p) H a o) (new : RO C K (m.add p) H p ob) : SR C K (m.add p) H (S ++ [ob]) where
  nd := nodup_snoc s.nd fun z => hp (.inl z)
  len := by show (m.l ++ [p]).length = _; simp [s.len]
  obj := fun n a o' h1 h2 => by
    have h1 : (m.l ++ [p])[n]? = Option.some a := h1
    by_cases hn : n < m.l.length
    · rw [List.getElem?_append_left hn] at h1
      rw [List.getElem?_append_left (by rw [← s.len]; exact hn)] at h2
      exact hb n a o' h1 h2
    · have hn' : n = m.l.length := by
        have := (List.getElem?_eq_some_iff.mp h1).1
        simp at this; omega
      subst hn'
      simp at h1
      rw [s.len] at h2
      simp at h2
      subst h1; subst h2
      exact new
  hid := s.hid
  apt := fun a ha z => by
    rcases List.mem_append.mp z with q | q
    · exact s.apt a ha q
    · rw [List.mem_singleton] at q; subst q; exact hp (.inr ha)
theorem has_add (m : M) {p a : Addr} (hn : ¬ m.has a) (hne : a ≠ p) : ¬ (m.add p).has a := fun z => by
  rcases z with z | z
  · rcases List.mem_append.mp z with q | q
    · exact hn (.inl q)
    · rw [List.mem_singleton] at q; exact hne q
  · exact hn (.inr z)
/-- laid and made a changing one at once -/
theorem Ev.layM {p : Addr} {o : HO} (h : H p = Option.none) : Ev m H (m.add p) (upd H p o) := (Ev.lay h).add h
theorem SR.layM {C : Addr} {S : List O} (s : SR C K m H S) {p : Addr} {o : HO} {ob : O} (h : H p = Option.none) (new : RO C K (m.add p) (upd H p o) p ob) : SR C K (m.add p) (upd H p o) (S ++ [ob]) :=
  (s.lay h).add (s.notin h) (fun n a o' h1 h2 => by
    have r := s.obj n a o' h1 h2
    obtain ⟨u, e⟩ := r.some
    exact r.ev (.layM h) (upd_ne (ne_of_none e h))) new
theorem SR.put {C : Addr} {S : List O} (s : SR C K m H S) {n : Nat} {p : Addr} {o : HO} {ob : O} (hp : m.l[n]? = Option.some p) (new : RO C K m (upd H p o) p ob) : SR C K m (upd H p o) (S.set n ob) where
  nd := s.nd
  len := by simp [s.len]
  obj := fun j a o' h1 h2 => by
    have hmem : p ∈ m.l := List.mem_of_getElem? hp
    obtain ⟨u, hu, ht, hf⟩ := s.nottup hmem
    have hn : n < m.l.length := (List.getElem?_eq_some_iff.mp hp).1
    by_cases hj : j = n
    · subst hj
      rw [hp] at h1
      cases h1
      rw [List.getElem?_set_self (by rw [← s.len]; exact hn)] at h2
      cases h2
      exact new
    · have hne : a ≠ p := fun e => by
        subst e
        exact hj (nd_ix s.nd h1 hp)
      rw [List.getElem?_set_ne (fun e => hj e.symm)] at h2
      exact (s.obj j a o' h1 h2).ev (.set hmem hu ht hf) (upd_ne hne)
  hid := fun a ha => by
    by_cases e : a = p
    · rw [e, upd_same]; exact fun z => nomatch z
    · rw [upd_ne e]; exact s.hid a ha
  apt := s.apt

/-! ## the slots -/
abbrev Sl := List (Option D)
structure ER (K : PySem.W.Frag) (m : M) (H : Hp) (σ : L2.St) (δ : Sl) : Prop where
  len : σ.length = δ.length
  get : ∀ (i : Nat) d, δ[i]? = some (some d) → ∃ v, σ[i]? = some (some v) ∧ Rp K m H v d
theorem ER.ev {σ : L2.St} {δ : Sl} (e : Ev m H m' H') (h : ER K m H σ δ) : ER K m' H' σ δ :=
  ⟨h.len, fun i d q => let ⟨v, a, b⟩ := h.get i d q; ⟨v, a, b.ev e⟩⟩
theorem ER.set {σ : L2.St} {δ : Sl} {v : V} {d : D} (h : ER K m H σ δ) (i : Nat) (r : Rp K m H v d) : ER K m H (σ.set i (some v)) (δ.set i (some d)) :=
  ⟨by simp [h.len], fun j d' q => by
    by_cases hj : i = j
    · subst hj
      by_cases hl : i < δ.length
      · rw [List.getElem?_set_self hl] at q
        cases q
        exact ⟨v, List.getElem?_set_self (by rw [h.len]; exact hl), r⟩
      · rw [List.getElem?_eq_none (by simp; omega)] at q
        cases q
    · rw [List.getElem?_set_ne hj] at q ⊢
      exact h.get j d' q⟩
theorem ER.unset {σ : L2.St} {δ : Sl} (h : ER K m H σ δ) (i : Nat) : ER K m H (σ.set i none) (δ.set i none) :=
  ⟨by simp [h.len], fun j d' q => by
    by_cases hj : i = j
    · subst hj
      by_cases hl : i < δ.length
      · rw [List.getElem?_set_self hl] at q
        cases q
      · rw [List.getElem?_eq_none (by simp; omega)] at q
        cases q
    · rw [List.getElem?_set_ne hj] at q ⊢
      exact h.get j d' q⟩
end
end Cb
namespace Cb
open PySem L2

/-! ## what a reading does to data -/
abbrev E := Sl → List O → Option (D × List O)
abbrev T := Sl → List O → Option (Bool × List O)
abbrev A := Sl → List O → Option (List D × List O)
inductive Out where
  | nx (δ : Sl) (S : List O) | rt (d : D) (S : List O) | bk (δ : Sl) (S : List O) | ct (δ : Sl) (S : List O)
abbrev B := Sl → List O → Option Out

def ESem (C : Addr) (K : PySem.W.Frag) (t : TE) (f : E) : Prop := ∀ m σ H δ S d S' Q, ER K m H σ δ → SR C K m H S → f δ S = some (d, S') →
  (∀ v m' H', Ev m H m' H' → SR C K m' H' S' → Rp K m' H' v d → Q v H') → t σ H Q
def TSem (C : Addr) (K : PySem.W.Frag) (t : TT) (f : T) : Prop := ∀ m σ H δ S b S' Q, ER K m H σ δ → SR C K m H S → f δ S = some (b, S') →
  (∀ m' H', Ev m H m' H' → SR C K m' H' S' → Q b H') → t σ H Q
def ASem (C : Addr) (K : PySem.W.Frag) (t : TA) (f : A) : Prop := ∀ m σ H δ S ds S' Q, ER K m H σ δ → SR C K m H S → f δ S = some (ds, S') →
  (∀ vs m' H', Ev m H m' H' → SR C K m' H' S' → RpAll K m' H' vs ds → Q vs H') → t σ H Q
/-- a new list; a new dict -/
def LSem (C : Addr) (K : PySem.W.Frag) (t : TE) (f : A) : Prop := ∀ m σ H δ S ds S' Q, ER K m H σ δ → SR C K m H S → f δ S = some (ds, S') →
  (∀ p xs m' H', Ev m H m' H' → H p = none → H' p = some (.lst xs) → SR C K (m'.hide p) H' S' → RpAll K (m'.hide p) H' xs ds → Q (.ref p) H') → t σ H Q
abbrev DD := Sl → List O → Option (List (Key × D) × List O)
def DSem (C : Addr) (K : PySem.W.Frag) (t : TE) (f : DD) : Prop := ∀ m σ H δ S ds S' Q, ER K m H σ δ → SR C K m H S → f δ S = some (ds, S') →
  (∀ p kvs m' H', Ev m H m' H' → H p = none → H' p = some (.dK kvs) → SR C K (m'.hide p) H' S' → kvs.map (·.1) = ds.map (·.1) → RpAll K (m'.hide p) H' (kvs.map (·.2)) (ds.map (·.2)) → Q (.ref p) H') → t σ H Q
section
variable {C : Addr} {K : PySem.W.Frag} {m m' : M} {H H' : Hp} {S S' : List O} {p : Addr} {o : HO}
theorem RO.mp {m2 : M} {H2 : Hp} {a : Addr} {ob : O} (h : RO C K m H a ob) (k : H2 a = H a) (f : ∀ {vs : List V} {ds : List D}, RpAll K m H vs ds → RpAll K m2 H2 vs ds) : RO C K m2 H2 a ob := by
  cases ob with
  | lst ds => obtain ⟨xs, h1, h2⟩ := h; exact ⟨xs, by rw [k]; exact h1, f h2⟩
  | dic ks => obtain ⟨xs, h1, h2, h3⟩ := h; exact ⟨xs, by rw [k]; exact h1, h2, f h3⟩
  | ins fs => obtain ⟨dx, gs, h1, h2, h3⟩ := h; exact ⟨dx, gs, by rw [k]; exact h1, h2, f h3⟩
theorem SR.hideLay (s : SR C K m H S) (hp : H p = none) : SR C K (m.hide p) (upd H p o) S where
  nd := s.nd
  len := s.len
  obj := fun n a ob h1 h2 => by
    have r := s.obj n a ob h1 h2
    obtain ⟨u, e⟩ := r.some
    exact r.mp (upd_ne (ne_of_none e hp)) (RpAll.hide hp (.lay hp))
  hid := fun a ha => by
    by_cases e : a = p
    · rw [e, upd_same]; exact fun z => nomatch z
    · rw [upd_ne e]
      rcases List.mem_cons.mp ha with q | q
      · exact absurd q e
      · exact s.hid a q
  apt := fun a ha => by
    rcases List.mem_cons.mp ha with q | q
    · rw [q]; exact s.notl hp
    · exact s.apt a q
theorem Ev.free (e : Ev m H m' H') (s : SR C K m' H' S') (h : H' p = none) : H p = none := by
  cases q : H p with
  | none => rfl
  | some u =>
    by_cases hm : p ∈ m.l
    · obtain ⟨l, el⟩ := e.pre
      exact absurd (by rw [el]; exact List.mem_append_left _ hm) (s.notl h)
    · rw [e.keep p u q hm] at h; cases h
/-- a new thing, seen from where all began: it is no hidden and no changing one -/
theorem new_has (e : Ev m H m' H') (s0 : SR C K m H S) (hp : H p = none) (s : SR C K (m'.hide p) H' S') : ¬ m'.has p := fun z => by
  rcases z with z | z
  · exact s.apt p List.mem_cons_self z
  · rw [e.hid] at z
    exact s0.hid p z hp
theorem unhide {vs : List V} {ds : List D} (r : RpAll K (m.hide p) H vs ds) : RpAll K m H vs ds := RpAll.re (m := m.hide p) (m' := m) (fun _ _ h => h) (fun a n z => n (by
  rcases z with z | z
  · exact .inl z
  · exact .inr (List.mem_cons_of_mem _ z))) r
theorem hide_add {vs : List V} {ds : List D} (r : RpAll K (m.hide p) H vs ds) : RpAll K (m.add p) H vs ds := RpAll.re (m := m.hide p) (m' := m.add p) (fun _ _ h => add_at m h) (fun a n z => n (by
  rcases z with z | z
  · rcases List.mem_append.mp z with q | q
    · exact .inl q
    · rw [List.mem_singleton] at q; subst q; exact .inr List.mem_cons_self
  · exact .inr (List.mem_cons_of_mem _ z))) r
theorem SR.unhide (s : SR C K (m.hide p) H S) : SR C K m H S :=
  ⟨s.nd, s.len, fun n a ob h1 h2 => (s.obj n a ob h1 h2).mp rfl Cb.unhide, fun a ha => s.hid a (List.mem_cons_of_mem _ ha), fun a ha => s.apt a (List.mem_cons_of_mem _ ha)⟩
theorem SR.hideAdd {ob : O} (s : SR C K (m.hide p) H S) (hn : ¬ m.has p) (new : RO C K (m.add p) H p ob) : SR C K (m.add p) H (S ++ [ob]) :=
  s.unhide.add hn (fun n a ob h1 h2 => (s.obj n a ob h1 h2).mp rfl hide_add) new
end
def Post (C : Addr) (K : PySem.W.Frag) (m : M) (H : Hp) (o : Out) (Z : Ends) : Prop := match o with
  | .nx δ' S' => ∀ m' σ' H', Ev m H m' H' → ER K m' H' σ' δ' → SR C K m' H' S' → Z.nx σ' H'
  | .bk δ' S' => ∀ m' σ' H', Ev m H m' H' → ER K m' H' σ' δ' → SR C K m' H' S' → Z.bk σ' H'
  | .ct δ' S' => ∀ m' σ' H', Ev m H m' H' → ER K m' H' σ' δ' → SR C K m' H' S' → Z.ct σ' H'
  | .rt d S' => ∀ v m' H', Ev m H m' H' → SR C K m' H' S' → Rp K m' H' v d → Z.rt v H'
def SSem (C : Addr) (K : PySem.W.Frag) (t : TS) (b : B) : Prop := ∀ m σ H δ S o (Z : Ends), ER K m H σ δ → SR C K m H S → b δ S = some o → Post C K m H o Z → t Z σ H

section
variable {C : Addr} {K : PySem.W.Frag} {m m' : M} {H H' : Hp} {o : Out} {Z : Ends}
theorem Post.ev (e : Ev m H m' H') (h : Post C K m H o Z) : Post C K m' H' o Z := by
  cases o with
  | nx δ S => exact fun m'' σ' H'' e' => h m'' σ' H'' (e.trans e')
  | bk δ S => exact fun m'' σ' H'' e' => h m'' σ' H'' (e.trans e')
  | ct δ S => exact fun m'' σ' H'' e' => h m'' σ' H'' (e.trans e')
  | rt d S => exact fun v m'' H'' e' => h v m'' H'' (e.trans e')
end

structure RE (X : Cx) (C : Addr) (e : Expr) (t : TE) (f : E) : Prop where
  p : PE X e t
  s : ESem C X.K t f
structure RT (X : Cx) (C : Addr) (e : Expr) (t : TT) (f : T) : Prop where
  p : PT X e t
  s : TSem C X.K t f
structure RA (X : Cx) (C : Addr) (es : List Expr) (t : TA) (f : A) : Prop where
  p : PA X es t
  s : ASem C X.K t f
structure RL (X : Cx) (C : Addr) (e : Expr) (t : TE) (f : A) : Prop where
  p : PE X e t
  s : LSem C X.K t f
structure RD (X : Cx) (C : Addr) (e : Expr) (t : TE) (f : DD) : Prop where
  p : PE X e t
  s : DSem C X.K t f
structure RS (X : Cx) (C : Addr) (st : Stmt) (t : TS) (f : B) : Prop where
  p : PS X st t
  s : SSem C X.K t f
structure RSs (X : Cx) (C : Addr) (st : List Stmt) (t : TS) (f : B) : Prop where
  p : PSs X st t
  s : SSem C X.K t f

section
variable {X : Cx} {C : Addr} {pos : Pos} {a b c e : Expr} {es : List Expr} {ta tb tc te : TE} {tA : TA} {fa fb fc f : E} {g : A}

/-! ### names, constants -/
def eVar (i : Nat) : E := fun δ S => match δ[i]? with | some (some d) => some (d, S) | _ => none
def eC (d : D) : E := fun _ S => some (d, S)
theorem s_var (i : Nat) : ESem C X.K (tVar i) (eVar i) := fun m σ H δ S d S' Q er sr h q => by
  unfold eVar at h
  split at h
  · rename_i d' hd
    cases h
    obtain ⟨v, h1, h2⟩ := er.get i _ hd
    exact ⟨v, h1, q v m H .refl sr h2⟩
  · cases h
theorem re_var (i : Nat) {x : Str} (hN : X.N[i]? = some x := by rfl) (hv : Vis X.env.scope x := by first | exact Or.inl rfl | exact Or.inr (Or.inl rfl) | exact Or.inr (Or.inr rfl)) (hd : (x == ("__debug__" : Str)) = false := by decide)
    (hcd : (x == ("__classdict__" : Str)) = false := by decide) : RE X C (.Name x pos) (tVar i) (eVar i) := ⟨pe_var hN hv hd hcd, s_var i⟩
theorem re_int {i : Int} {j} : RE X C (.Constant (.int i) j pos) (tC (.int i)) (eC (.int i)) := ⟨pe_int, fun m σ H δ S d S' Q er sr h q => by cases h; exact q _ m H .refl sr (.int i)⟩
theorem re_bl {i : Bool} {j} : RE X C (.Constant (.bool i) j pos) (tC (.bl i)) (eC (.bl i)) := ⟨pe_bl, fun m σ H δ S d S' Q er sr h q => by cases h; exact q _ m H .refl sr (.bl i)⟩
theorem re_non {j} : RE X C (.Constant .none j pos) (tC .non) (eC .non) := ⟨pe_non, fun m σ H δ S d S' Q er sr h q => by cases h; exact q _ m H .refl sr .non⟩
theorem re_str {i : Str} {j} : RE X C (.Constant (.str i) j pos) (tC (.str i)) (eC (.str i)) := ⟨pe_str, fun m σ H δ S d S' Q er sr h q => by cases h; exact q _ m H .refl sr (.str i)⟩
theorem re_gInt {x : Str} {i : Int} {u : Value} (hg : Gl X x) (hm : X.mg x = some u) (r : RelV (.int i) u) (hd : (x == ("__debug__" : Str)) = false := by decide) : RE X C (.Name x pos) (tC (.int i)) (eC (.int i)) :=
  ⟨pe_glob hg hm r hd, fun m σ H δ S d S' Q er sr h q => by cases h; exact q _ m H .refl sr (.int i)⟩
theorem re_gStr {x z : Str} {u : Value} (hg : Gl X x) (hm : X.mg x = some u) (r : RelV (.str z) u) (hd : (x == ("__debug__" : Str)) = false := by decide) : RE X C (.Name x pos) (tC (.str z)) (eC (.str z)) :=
  ⟨pe_glob hg hm r hd, fun m σ H δ S d S' Q er sr h q => by cases h; exact q _ m H .refl sr (.str z)⟩

/-! ### lists of expressions -/
def aNil : A := fun _ S => some ([], S)
def aCons (f : E) (g : A) : A := fun δ S => (f δ S).bind fun p => (g δ p.2).bind fun q => some (p.1 :: q.1, q.2)
theorem ra_nil : RA X C [] tNil aNil := ⟨pa_nil, fun m σ H δ S d S' Q er sr h q => by cases h; exact q [] m H .refl sr .nil⟩
theorem ra_cons (ha : RE X C e te f) (hr : RA X C es tA g) (hs : starEach (e :: es) X.env = (false, eval e X.env) :: starEach es X.env := by rfl) : RA X C (e :: es) (tCons te tA) (aCons f g) :=
  ⟨pa_cons ha.p hr.p hs, fun m σ H δ S d S' Q er sr h q => by
    unfold aCons at h
    obtain ⟨⟨d1, S1⟩, h1, h2⟩ := Option.bind_eq_some_iff.mp h
    obtain ⟨⟨ds, S2⟩, h3, h4⟩ := Option.bind_eq_some_iff.mp h2
    cases h4
    refine ha.s m σ H δ S d1 S1 _ er sr h1 fun v m1 H1 e1 s1 r1 => ?_
    refine hr.s m1 σ H1 δ S1 ds _ _ (er.ev e1) s1 h3 fun vs m2 H2 e2 s2 r2 => ?_
    exact q _ m2 H2 (e1.trans e2) s2 (.cons (r1.ev e2) r2)⟩

/-! ### displays -/
def eTup (g : A) : E := fun δ S => (g δ S).bind fun p => if p.1.length ≤ 1000 then some (.tup p.1, p.2) else none
theorem le_size {n : Nat} (h : n ≤ 1000) : n ≤ sizeLine := Nat.le_of_lt (small1000 h)
theorem re_tup {x1} (h : RA X C es tA g) : RE X C (.Tuple es x1 pos) (tTup tA) (eTup g) :=
  ⟨pe_tup h.p, fun m σ H δ S d S' Q er sr hf q => by
    unfold eTup at hf
    obtain ⟨⟨ds, S1⟩, h1, h2⟩ := Option.bind_eq_some_iff.mp hf
    split at h2
    · rename_i hl
      cases h2
      refine h.s m σ H δ S _ _ _ er sr h1 fun vs m1 H1 e1 s1 r1 => ?_
      refine ⟨le_size (by rw [r1.length]; exact hl), fun p hp => ?_⟩
      exact q _ m1 _ (e1.trans (.lay hp)) (s1.lay hp) (.tup (.of upd_same) (r1.ev (.lay hp)))
    · cases h2⟩
def lDisp (g : A) : A := fun δ S => (g δ S).bind fun p => if p.1.length ≤ 1000 then some p else none
theorem rl_lst (h : RA X C es tA g) : RL X C (.List es pos) (tLst tA) (lDisp g) :=
  ⟨pe_lst h.p, fun m σ H δ S d S' Q er sr hf q => by
    unfold lDisp at hf
    obtain ⟨⟨ds, S1⟩, h1, h2⟩ := Option.bind_eq_some_iff.mp hf
    split at h2
    · rename_i hl
      cases h2
      refine h.s m σ H δ S _ _ _ er sr h1 fun vs m1 H1 e1 s1 r1 => ?_
      exact ⟨le_size (by rw [r1.length]; exact hl), fun p hp => q p vs m1 _ (e1.trans (.lay hp)) (e1.free s1 hp) upd_same (s1.hideLay hp) (r1.hide hp (.lay hp))⟩
    · cases h2⟩
/-- a new list as a value that never changes; as a changing object -/
def eL (g : A) : E := fun δ S => (g δ S).bind fun p => some (.lst p.1, p.2)
def eLM (g : A) : E := fun δ S => (g δ S).bind fun p => some (.ref p.2.length, p.2 ++ [.lst p.1])
theorem s_L {t : TE} (h : LSem C K t g) : ESem C K t (eL g) := fun m σ H δ S d S' Q er sr hf q => by
  unfold eL at hf
  obtain ⟨⟨ds, S1⟩, h1, h2⟩ := Option.bind_eq_some_iff.mp hf
  cases h2
  refine h m σ H δ S ds _ _ er sr h1 fun p xs m1 H1 e1 hp hl s1 r1 => ?_
  exact q _ m1 _ e1 s1.unhide (.lst hl (new_has e1 sr hp s1) (unhide r1))
theorem at_snoc {α : Type} {l : List α} {a : α} : (l ++ [a])[l.length]? = some a := by simp
theorem s_LM {t : TE} (h : LSem C K t g) : ESem C K t (eLM g) := fun m σ H δ S d S' Q er sr hf q => by
  unfold eLM at hf
  obtain ⟨⟨ds, S1⟩, h1, h2⟩ := Option.bind_eq_some_iff.mp hf
  cases h2
  refine h m σ H δ S ds S1 _ er sr h1 fun p xs m1 H1 e1 hp hl s1 r1 => ?_
  refine q _ (m1.add p) _ (e1.add hp) (s1.hideAdd (new_has e1 sr hp s1) ⟨xs, hl, hide_add r1⟩) (.ref ?_)
  have hlen : m1.l.length = S1.length := s1.len
  rw [← hlen]
  exact at_snoc
theorem re_L (h : RL X C e te g) : RE X C e te (eL g) := ⟨h.p, s_L h.s⟩
theorem re_LM (h : RL X C e te g) : RE X C e te (eLM g) := ⟨h.p, s_LM h.s⟩
def eDi (g : DD) : E := fun δ S => (g δ S).bind fun p => some (.dic p.1, p.2)
def eDM (g : DD) : E := fun δ S => (g δ S).bind fun p => some (.ref p.2.length, p.2 ++ [.dic p.1])
theorem s_Di {t : TE} {g : DD} (h : DSem C K t g) : ESem C K t (eDi g) := fun m σ H δ S d S' Q er sr hf q => by
  unfold eDi at hf
  obtain ⟨⟨ds, S1⟩, h1, h2⟩ := Option.bind_eq_some_iff.mp hf
  cases h2
  refine h m σ H δ S ds _ _ er sr h1 fun p xs m1 H1 e1 hp hl s1 k1 r1 => ?_
  exact q _ m1 _ e1 s1.unhide (.dic hl (new_has e1 sr hp s1) k1 (unhide r1))
theorem s_DM {t : TE} {g : DD} (h : DSem C K t g) : ESem C K t (eDM g) := fun m σ H δ S d S' Q er sr hf q => by
  unfold eDM at hf
  obtain ⟨⟨ds, S1⟩, h1, h2⟩ := Option.bind_eq_some_iff.mp hf
  cases h2
  refine h m σ H δ S ds S1 _ er sr h1 fun p xs m1 H1 e1 hp hl s1 k1 r1 => ?_
  refine q _ (m1.add p) _ (e1.add hp) (s1.hideAdd (new_has e1 sr hp s1) ⟨xs, hl, k1, hide_add r1⟩) (.ref ?_)
  have hlen : m1.l.length = S1.length := s1.len
  rw [← hlen]
  exact at_snoc
theorem re_Di {g : DD} (h : RD X C e te g) : RE X C e te (eDi g) := ⟨h.p, s_Di h.s⟩
theorem re_DM {g : DD} (h : RD X C e te g) : RE X C e te (eDM g) := ⟨h.p, s_DM h.s⟩

/-! ### what a value is, as a list, a tuple -/
def seqL (S : List O) : D → Option (List D)
  | .lst xs => some xs
  | .scr ns => some (ns.map .int)
  | .ref n => match S[n]? with | some (.lst xs) => some xs | _ => none
  | _ => none
theorem rp_seqL {m : M} {H : Hp} {S : List O} {v : V} {d : D} {ds : List D} (s : SR C K m H S) (r : Rp K m H v d) (h : seqL S d = some ds) : ∃ a xs, v = .ref a ∧ SqL K H a xs ∧ RpAll K m H xs ds := by
  cases r with
  | lst h1 n r => cases h; exact ⟨_, _, rfl, .of h1, r⟩
  | scr h1 => cases h; exact ⟨_, _, rfl, h1.sq, .ints _⟩
  | @ref a n hn =>
    have h : (match S[n]? with | some (O.lst xs) => some xs | _ => none) = some ds := h
    split at h
    · rename_i xs hs
      cases h
      obtain ⟨vs, h1, h2⟩ := s.obj _ _ _ hn hs
      exact ⟨_, _, rfl, .of h1, h2⟩
    · cases h
  | _ => cases h
/-- a list that stands tracked by itself -/
def seqM (S : List O) : D → Option (List D)
  | .lst xs => some xs
  | .ref n => match S[n]? with | some (.lst xs) => some xs | _ => none
  | _ => none
theorem rp_seqM {m : M} {H : Hp} {S : List O} {v : V} {d : D} {ds : List D} (s : SR C K m H S) (r : Rp K m H v d) (h : seqM S d = some ds) : ∃ a xs, v = .ref a ∧ H a = some (.lst xs) ∧ RpAll K m H xs ds := by
  cases r with
  | lst h1 n r => cases h; exact ⟨_, _, rfl, h1, r⟩
  | @ref a n hn =>
    have h : (match S[n]? with | some (O.lst xs) => some xs | _ => none) = some ds := h
    split at h
    · rename_i xs hs
      cases h
      obtain ⟨vs, h1, h2⟩ := s.obj _ _ _ hn hs
      exact ⟨_, _, rfl, h1, h2⟩
    · cases h
  | _ => cases h

/-! ### operators -/
abbrev Op2 := D → D → List O → Option D
def eOp (g : Op2) (f1 f2 : E) : E := fun δ S => (f1 δ S).bind fun p => (f2 δ p.2).bind fun q => (g p.1 q.1 q.2).bind fun d => some (d, q.2)
def R2Sem (C : Addr) (K : PySem.W.Frag) (r : R2) (g : Op2) : Prop := ∀ m H x y d1 d2 S d Q, Rp K m H x d1 → Rp K m H y d2 → SR C K m H S → g d1 d2 S = some d →
  (∀ v m' H', Ev m H m' H' → SR C K m' H' S → Rp K m' H' v d → Q v H') → r x y H Q
theorem s_op {r : R2} {g : Op2} {f1 f2 : E} {ta tb : TE} (h : R2Sem C K r g) (h1 : ESem C K ta f1) (h2 : ESem C K tb f2) : ESem C K (tOp r ta tb) (eOp g f1 f2) := fun m σ H δ S d S' Q er sr hf q => by
  unfold eOp at hf
  obtain ⟨⟨d1, S1⟩, q1, hf⟩ := Option.bind_eq_some_iff.mp hf
  obtain ⟨⟨d2, S2⟩, q2, hf⟩ := Option.bind_eq_some_iff.mp hf
  obtain ⟨d3, q3, hf⟩ := Option.bind_eq_some_iff.mp hf
  cases hf
  refine h1 m σ H δ S d1 S1 _ er sr q1 fun v m1 H1 e1 s1 r1 => ?_
  refine h2 m1 σ H1 δ S1 d2 S2 _ (er.ev e1) s1 q2 fun u m2 H2 e2 s2 r2 => ?_
  refine h m2 H2 v u d1 d2 S2 d _ (r1.ev e2) r2 s2 q3 fun w m3 H3 e3 s3 r3 => ?_
  exact q w m3 H3 (e1.trans (e2.trans e3)) s3 r3
def rAddX (K : PySem.W.Frag) : R2 := fun x y H Q => (rI0 (fun i j => .int (i + j))) x y H Q ∨ (∃ i j, x = .str i ∧ y = .str j ∧ i.length + j.length ≤ sizeLine ∧ Q (.str (i ++ j)) H) ∨ rCatA K x y H Q ∨ L2.rCat x y H Q
theorem op_addX : OpR X (binaryOp .Add) (rAddX X.K) := op_add.or (op_add_str.or (op_catA.or op_cat))
def dAdd : Op2 := fun d e S => match d, e with
  | .int i, .int j => some (.int (i + j))
  | .str x, .str y => if x.length + y.length ≤ sizeLine then some (.str (x ++ y)) else none
  | .tup a, .tup b => if a.length + b.length ≤ sizeLine then some (.tup (a ++ b)) else none
  | .lst a, .lst b => if a.length + b.length ≤ sizeLine then some (.lst (a ++ b)) else none
  | _, _ => none
theorem s_addX : R2Sem C K (rAddX K) dAdd := fun m H x y d1 d2 S d Q r1 r2 sr hf q => by
  unfold dAdd at hf
  split at hf
  · cases hf; cases r1; cases r2; exact .inl ⟨_, _, rfl, rfl, q _ m H .refl sr (.int _)⟩
  · split at hf
    · rename_i hl
      cases hf; cases r1; cases r2; exact .inr (.inl ⟨_, _, rfl, rfl, hl, q _ m H .refl sr (.str _)⟩)
    · cases hf
  · split at hf
    · rename_i hl
      cases hf
      cases r1 with
      | tup h1 q1 =>
        cases r2 with
        | tup h2 q2 =>
          refine .inr (.inr (.inl ⟨_, _, _, _, rfl, rfl, h1, h2, by rw [q1.length, q2.length]; exact hl, fun e => ?_, fun _ e => ?_, fun _ _ p hp => ?_⟩))
          · subst e
            cases q1
            exact q _ m H .refl sr (.tup h2 q2)
          · subst e
            cases q2
            exact q _ m H .refl sr (.tup h1 (by rw [List.append_nil]; exact q1))
          · exact q _ m _ (.lay hp) (sr.lay hp) (.tup (.of upd_same) ((q1.append q2).ev (.lay hp)))
    · cases hf
  · split at hf
    · rename_i hl
      cases hf
      cases r1 with
      | lst h1 n1 q1 =>
        cases r2 with
        | lst h2 n2 q2 =>
          refine .inr (.inr (.inr ⟨_, _, _, _, rfl, rfl, h1, h2, by rw [q1.length, q2.length]; exact hl, fun p hp => ?_⟩))
          exact q _ m _ (.lay hp) (sr.lay hp) (.lst upd_same (sr.notin hp) ((q1.append q2).ev (.lay hp)))
    · cases hf
  · cases hf
theorem re_add (ha : RE X C a ta fa) (hb : RE X C b tb fb) : RE X C (.BinOp a .Add b pos) (tOp (rAddX X.K) ta tb) (eOp dAdd fa fb) := ⟨pe_op op_addX ha.p hb.p, s_op s_addX ha.s hb.s⟩
def dInt (g : Int → Int → Option Int) : Op2 := fun d e _ => match d, e with
  | .int i, .int j => (g i j).bind fun k => some (.int k)
  | _, _ => none
theorem s_rI {Cd : Int → Int → Prop} {g : Int → Int → Int} {g' : Int → Int → Option Int} (hc : ∀ i j k, g' i j = some k → Cd i j ∧ k = g i j) : R2Sem C K (rI Cd fun i j => .int (g i j)) (dInt g') := fun m H x y d1 d2 S d Q r1 r2 sr hf q => by
  unfold dInt at hf
  split at hf
  · obtain ⟨k, hk, h2⟩ := Option.bind_eq_some_iff.mp hf
    cases h2
    obtain ⟨h1, e⟩ := hc _ _ _ hk
    subst e
    cases r1; cases r2
    exact ⟨_, _, rfl, rfl, h1, q _ m H .refl sr (.int _)⟩
  · cases hf
def gSub (i j : Int) : Option Int := some (i - j)
def gMul (i j : Int) : Option Int := if (-(2 ^ 64) < i ∧ i < 2 ^ 64) ∨ (-(2 ^ 64) < j ∧ j < 2 ^ 64) then some (i * j) else none
def gDiv (i j : Int) : Option Int := if 0 < j ∧ j < 1073741824 then some (i / j) else none
def gMod (i j : Int) : Option Int := if 0 < j then some (i % j) else none
def gPow (i j : Int) : Option Int := if 0 ≤ j ∧ j ≤ 1000000 ∧ i.natAbs < 2 ^ 64 then some (i ^ j.toNat) else none
theorem re_sub (ha : RE X C a ta fa) (hb : RE X C b tb fb) : RE X C (.BinOp a .Sub b pos) (tOp (rI (fun _ _ => True) fun i j => .int (i - j)) ta tb) (eOp (dInt gSub) fa fb) :=
  ⟨pe_op (by intro pins s σ H x y v u Q I rx ry h; obtain ⟨i, j, e1, e2, _, q⟩ := h; exact op_sub pins s σ H x y v u Q I rx ry ⟨i, j, e1, e2, q⟩) ha.p hb.p, s_op (s_rI fun i j k h => by cases h; exact ⟨trivial, rfl⟩) ha.s hb.s⟩
theorem re_div (ha : RE X C a ta fa) (hb : RE X C b tb fb) : RE X C (.BinOp a .FloorDiv b pos) (tOp (rI CDiv fun i j => .int (i / j)) ta tb) (eOp (dInt gDiv) fa fb) :=
  ⟨pe_op op_fdiv ha.p hb.p, s_op (s_rI fun i j k h => by
    unfold gDiv at h
    split at h
    · cases h; exact ⟨by assumption, rfl⟩
    · cases h) ha.s hb.s⟩
theorem re_mod (ha : RE X C a ta fa) (hb : RE X C b tb fb) : RE X C (.BinOp a .Mod b pos) (tOp (rI (fun _ j => 0 < j) fun i j => .int (i % j)) ta tb) (eOp (dInt gMod) fa fb) :=
  ⟨pe_op op_mod ha.p hb.p, s_op (s_rI fun i j k h => by
    unfold gMod at h
    split at h
    · cases h; exact ⟨by assumption, rfl⟩
    · cases h) ha.s hb.s⟩
theorem re_pow (ha : RE X C a ta fa) (hb : RE X C b tb fb) : RE X C (.BinOp a .Pow b pos) (tOp (rI CPow fun i j => .int (i ^ j.toNat)) ta tb) (eOp (dInt gPow) fa fb) :=
  ⟨pe_op op_pow ha.p hb.p, s_op (s_rI fun i j k h => by
    unfold gPow at h
    split at h
    · cases h; exact ⟨by assumption, rfl⟩
    · cases h) ha.s hb.s⟩
/-- a product of ints; a list so many times -/
def rMulX : R2 := fun x y H Q => rI CMul (fun i j => .int (i * j)) x y H Q ∨ rRep x y H Q
def dMul : Op2 := fun d e S => match d, e with
  | .int i, .int j => (gMul i j).bind fun k => some (.int k)
  | .lst a, .int k => if 0 ≤ k ∧ k < 2 ^ 63 ∧ a.length * k.toNat ≤ sizeLine then some (.lst (List.replicate k.toNat a).flatten) else none
  | _, _ => none
theorem RpAll.rep {K : PySem.W.Frag} {m : M} {H : Hp} {xs : List V} {ds : List D} (h : RpAll K m H xs ds) : ∀ k : Nat, RpAll K m H (List.replicate k xs).flatten (List.replicate k ds).flatten
  | 0 => .nil
  | k + 1 => by
    rw [List.replicate_succ, List.replicate_succ, List.flatten_cons, List.flatten_cons]
    exact h.append (RpAll.rep h k)
theorem s_mulX : R2Sem C K rMulX dMul := fun m H x y d1 d2 S d Q r1 r2 sr hf q => by
  unfold dMul at hf
  split at hf
  · obtain ⟨k, hk, h2⟩ := Option.bind_eq_some_iff.mp hf
    cases h2
    unfold gMul at hk
    split at hk
    · rename_i hc
      cases hk
      cases r1; cases r2
      exact .inl ⟨_, _, rfl, rfl, hc, q _ m H .refl sr (.int _)⟩
    · cases hk
  · split at hf
    · rename_i hc
      cases hf
      cases r1 with
      | lst h1 n1 q1 =>
        cases r2
        refine .inr ⟨_, _, _, rfl, rfl, h1, by omega, hc.2.1, by rw [q1.length]; exact hc.2.2, fun p hp => ?_⟩
        exact q _ m _ (.lay hp) (sr.lay hp) (.lst upd_same (sr.notin hp) ((q1.rep _).ev (.lay hp)))
    · cases hf
  · cases hf
theorem re_mul (ha : RE X C a ta fa) (hb : RE X C b tb fb) : RE X C (.BinOp a .Mult b pos) (tOp rMulX ta tb) (eOp dMul fa fb) := ⟨pe_op (op_mul.or op_rep) ha.p hb.p, s_op s_mulX ha.s hb.s⟩
def eNeg (f : E) : E := fun δ S => (f δ S).bind fun p => match p.1 with | .int i => some (.int (-i), p.2) | _ => none
theorem re_neg (ha : RE X C a ta fa) : RE X C (.UnaryOp .USub a pos) (tUn (rU fun i => .int (-i)) ta) (eNeg fa) :=
  ⟨pe_un un_neg ha.p, fun m σ H δ S d S' Q er sr hf q => by
    unfold eNeg at hf
    obtain ⟨⟨d1, S1⟩, q1, hf⟩ := Option.bind_eq_some_iff.mp hf
    split at hf
    · rename_i i hi
      cases hf
      have hi : d1 = .int i := hi
      subst hi
      refine ha.s m σ H δ S _ _ _ er sr q1 fun v m1 H1 e1 s1 r1 => ?_
      cases r1
      exact ⟨_, rfl, q _ m1 H1 e1 s1 (.int _)⟩
    · cases hf⟩

/-! ### comparisons -/
mutual
def py : D → PyData
  | .non => .none | .bl b => .bool b | .int i => .int i | .str x => .str x
  | .tup xs => .tuple (pyL xs) | .lst xs => .list (pyL xs) | .scr ns => .list (ns.map .int) | .dic _ => .dict [] | .ref _ => .dict [] | .tun _ => .dict [] | .fn _ => .dict []
def pyL : List D → List PyData
  | [] => []
  | d :: ds => py d :: pyL ds
end
def pyS (S : List O) : D → PyData
  | .ref n => match S[n]? with | some (.lst xs) => .list (pyL xs) | _ => .dict []
  | d => py d
theorem dp_ints {K : PySem.W.Frag} {H : Hp} : ∀ ns : List Int, DpAll K H (ns.map V.int) (ns.map PyData.int)
  | [] => .nil
  | n :: ns => .cons (.int n) (dp_ints ns)
mutual
theorem Rp.dp {m : M} {H : Hp} : ∀ {v : V} {d : D}, Rp K m H v d → (py d).canLay0 = true → Dp K H v (py d)
  | _, _, .non, _ => .non
  | _, _, .bl b, _ => .bl b
  | _, _, .int i, _ => .int i
  | _, _, .str x, _ => .str x
  | _, _, .tup h r, c => .tup h (RpAll.dp r (by simpa [py, PyData.canLay0] using c))
  | _, _, .lst h n r, c => .lst (.of h) (RpAll.dp r (by simpa [py, PyData.canLay0] using c))
  | _, _, .scr h, c => .lst h.sq (dp_ints _)
  | _, _, .dic h n k r, c => by simp [py, PyData.canLay0] at c
  | _, _, .ref h, c => by simp [py, PyData.canLay0] at c
  | _, _, .tun _ _ _ _, c => by simp [py, PyData.canLay0] at c
  | _, _, .fn _, c => by simp [py, PyData.canLay0] at c
theorem RpAll.dp {m : M} {H : Hp} : ∀ {vs : List V} {ds : List D}, RpAll K m H vs ds → PyData.canLayAll0 (pyL ds) = true → DpAll K H vs (pyL ds)
  | _, _, .nil, _ => .nil
  | _, _, .cons r rs, c => by
    simp only [pyL, PyData.canLayAll0, Bool.and_eq_true] at c
    exact .cons (Rp.dp r c.1) (RpAll.dp rs c.2)
end
theorem Rp.dpS {m : M} {H : Hp} {S : List O} {v : V} {d : D} (s : SR C K m H S) (r : Rp K m H v d) (c : (pyS S d).canLay0 = true) : Dp K H v (pyS S d) := by
  cases r with
  | @ref a n hn =>
    cases hs : S[n]? with
    | none => simp [pyS, hs, PyData.canLay0] at c
    | some ob =>
      cases ob with
      | lst xs =>
        obtain ⟨vs, h1, h2⟩ := s.obj _ _ _ hn hs
        have e : pyS S (.ref n) = .list (pyL xs) := by simp [pyS, hs]
        rw [e] at c ⊢
        exact .lst (.of h1) (h2.dp (by simpa [PyData.canLay0] using c))
      | dic ks => simp [pyS, hs, PyData.canLay0] at c
      | ins ks => simp [pyS, hs, PyData.canLay0] at c
  | non => exact .non
  | bl b => exact .bl b
  | int b => exact .int b
  | str b => exact .str b
  | tup h q => exact Rp.dp (.tup h q) c
  | lst h n q => exact Rp.dp (.lst h n q) c
  | scr h => exact Rp.dp (m := m) (.scr h) c
  | dic h n k q => exact Rp.dp (.dic h n k q) c
  | tun h h1 h2 q => exact Rp.dp (.tun h h1 h2 q) c
  | fn h => exact Rp.dp (m := m) (.fn h) c
def rEqL (K : PySem.W.Frag) (L : Nat) : R2 := fun x y H Q => ∃ d e, Dp K H x d ∧ Dp K H y e ∧ d.canLay0 = true ∧ e.canLay0 = true ∧ min d.depth e.depth ≤ L ∧ Q (.bl (PyData.eqv d e)) H
def rNeL (K : PySem.W.Frag) (L : Nat) : R2 := fun x y H Q => ∃ d e, Dp K H x d ∧ Dp K H y e ∧ d.canLay0 = true ∧ e.canLay0 = true ∧ min d.depth e.depth ≤ L ∧ Q (.bl (!PyData.eqv d e)) H
theorem op_eqL {L : Nat} (hu : X.A.units + L < cLine) : OpR X (compareOp .Eq) (rEqL X.K L) := by
  intro pins s σ H x y v u Q I rx ry h
  obtain ⟨d, e, hd, he, sd, se, hl, q⟩ := h
  obtain ⟨as, r1⟩ := Dp.reads I d x v hd rx
  obtain ⟨bs, r2⟩ := Dp.reads I e y u he ry
  exact SeqAt.compareEq_reads r1 r2 sd se (by omega) ⟨.bl _, H, I, rfl, q⟩
theorem op_neL {L : Nat} (hu : X.A.units + L < cLine) : OpR X (compareOp .NotEq) (rNeL X.K L) := by
  intro pins s σ H x y v u Q I rx ry h
  obtain ⟨d, e, hd, he, sd, se, hl, q⟩ := h
  obtain ⟨as, r1⟩ := Dp.reads I d x v hd rx
  obtain ⟨bs, r2⟩ := Dp.reads I e y u he ry
  exact SeqAt.compareNe_reads r1 r2 sd se (by omega) ⟨.bl _, H, I, rfl, q⟩
def dEqv (L : Nat) (S : List O) : D → D → Option Bool
  | .str x, .str y => some (decide (x = y))
  | .int i, .int j => some (decide (i = j))
  | .bl i, .bl j => some (decide (i = j))
  | .non, .str _ => some false
  | .str _, .non => some false
  | .int _, .str _ => some false
  | .str _, .int _ => some false
  | d, e => if (pyS S d).canLay0 = true ∧ (pyS S e).canLay0 = true ∧ min (pyS S d).depth (pyS S e).depth ≤ L then some (PyData.eqv (pyS S d) (pyS S e)) else none
def dEq (L : Nat) : Op2 := fun d e S => (dEqv L S d e).bind fun k => some (.bl k)
def dNe (L : Nat) : Op2 := fun d e S => (dEqv L S d e).bind fun k => some (.bl (!k))
theorem int_dec {i j : Int} : decide (V.int i = V.int j) = decide (i = j) := by simp
theorem str_dec {i j : Str} : decide (V.str i = V.str j) = decide (i = j) := by simp
theorem bl_dec {i j : Bool} : decide (V.bl i = V.bl j) = decide (i = j) := by rw [dec_bl]; cases i <;> cases j <;> rfl
theorem s_eqv {L : Nat} {m : M} {H : Hp} {x y : V} {d e : D} {S : List O} {k : Bool} (r1 : Rp K m H x d) (r2 : Rp K m H y e) (sr : SR C K m H S) (h : dEqv L S d e = some k) :
    (scal x y = true ∧ decide (x = y) = k) ∨ ∃ d e, Dp K H x d ∧ Dp K H y e ∧ d.canLay0 = true ∧ e.canLay0 = true ∧ min d.depth e.depth ≤ L ∧ PyData.eqv d e = k := by
  unfold dEqv at h
  split at h
  · cases h; cases r1; cases r2; exact .inl ⟨rfl, str_dec⟩
  · cases h; cases r1; cases r2; exact .inl ⟨rfl, int_dec⟩
  · cases h; cases r1; cases r2; exact .inl ⟨rfl, bl_dec⟩
  · cases h; cases r1; cases r2; exact .inl ⟨rfl, decide_eq_false (fun z => nomatch z)⟩
  · cases h; cases r1; cases r2; exact .inl ⟨rfl, decide_eq_false (fun z => nomatch z)⟩
  · cases h; cases r1; cases r2; exact .inl ⟨rfl, decide_eq_false (fun z => nomatch z)⟩
  · cases h; cases r1; cases r2; exact .inl ⟨rfl, decide_eq_false (fun z => nomatch z)⟩
  · split at h
    · rename_i hc
      cases h
      exact .inr ⟨_, _, r1.dpS sr hc.1, r2.dpS sr hc.2.1, hc.1, hc.2.1, hc.2.2, rfl⟩
    · cases h
def rEqX (K : PySem.W.Frag) (L : Nat) : R2 := fun x y H Q => rEq x y H Q ∨ rEqL K L x y H Q
def rNeX (K : PySem.W.Frag) (L : Nat) : R2 := fun x y H Q => rNe x y H Q ∨ rNeL K L x y H Q
theorem s_eqX {L : Nat} : R2Sem C K (rEqX K L) (dEq L) := fun m H x y d1 d2 S d Q r1 r2 sr hf q => by
  unfold dEq at hf
  obtain ⟨k, hk, h2⟩ := Option.bind_eq_some_iff.mp hf
  cases h2
  rcases s_eqv r1 r2 sr hk with ⟨h1, h2⟩ | ⟨d, e, h1, h2, h3, h4, h5, h6⟩
  · exact .inl ⟨h1, by rw [h2]; exact q _ m H .refl sr (.bl _)⟩
  · exact .inr ⟨d, e, h1, h2, h3, h4, h5, by rw [h6]; exact q _ m H .refl sr (.bl _)⟩
theorem s_neX {L : Nat} : R2Sem C K (rNeX K L) (dNe L) := fun m H x y d1 d2 S d Q r1 r2 sr hf q => by
  unfold dNe at hf
  obtain ⟨k, hk, h2⟩ := Option.bind_eq_some_iff.mp hf
  cases h2
  rcases s_eqv r1 r2 sr hk with ⟨h1, h2⟩ | ⟨d, e, h1, h2, h3, h4, h5, h6⟩
  · exact .inl ⟨h1, by rw [h2]; exact q _ m H .refl sr (.bl _)⟩
  · exact .inr ⟨d, e, h1, h2, h3, h4, h5, by rw [h6]; exact q _ m H .refl sr (.bl _)⟩
theorem re_eq {L : Nat} (hu : X.A.units + L < cLine) (ha : RE X C a ta fa) (hb : RE X C b tb fb) : RE X C (.Compare a [.Eq] [b] pos) (tOp (rEqX X.K L) ta tb) (eOp (dEq L) fa fb) := ⟨pe_cmpR (op_eq.or (op_eqL hu)) ha.p hb.p (nomark _), s_op s_eqX ha.s hb.s⟩
theorem re_ne {L : Nat} (hu : X.A.units + L < cLine) (ha : RE X C a ta fa) (hb : RE X C b tb fb) : RE X C (.Compare a [.NotEq] [b] pos) (tOp (rNeX X.K L) ta tb) (eOp (dNe L) fa fb) := ⟨pe_cmpR (op_ne.or (op_neL hu)) ha.p hb.p (nomark _), s_op s_neX ha.s hb.s⟩
def dCmp (g : Int → Int → Bool) : Op2 := fun d e _ => match d, e with
  | .int i, .int j => some (.bl (g i j))
  | _, _ => none
theorem s_rI0 {g : Int → Int → Bool} : R2Sem C K (rI0 fun i j => .bl (g i j)) (dCmp g) := fun m H x y d1 d2 S d Q r1 r2 sr hf q => by
  unfold dCmp at hf
  split at hf
  · cases hf; cases r1; cases r2
    exact ⟨_, _, rfl, rfl, q _ m H .refl sr (.bl _)⟩
  · cases hf
theorem re_lt (ha : RE X C a ta fa) (hb : RE X C b tb fb) : RE X C (.Compare a [.Lt] [b] pos) (tOp (rI0 fun i j => .bl (decide (i < j))) ta tb) (eOp (dCmp fun i j => decide (i < j)) fa fb) := ⟨pe_cmpR op_lt ha.p hb.p (nomark _), s_op s_rI0 ha.s hb.s⟩
theorem re_le (ha : RE X C a ta fa) (hb : RE X C b tb fb) : RE X C (.Compare a [.LtE] [b] pos) (tOp (rI0 fun i j => .bl (decide (i ≤ j))) ta tb) (eOp (dCmp fun i j => decide (i ≤ j)) fa fb) := ⟨pe_cmpR op_le ha.p hb.p (nomark _), s_op s_rI0 ha.s hb.s⟩
theorem re_gt (ha : RE X C a ta fa) (hb : RE X C b tb fb) : RE X C (.Compare a [.Gt] [b] pos) (tOp (rI0 fun i j => .bl (decide (i > j))) ta tb) (eOp (dCmp fun i j => decide (i > j)) fa fb) := ⟨pe_cmpR op_gt ha.p hb.p (nomark _), s_op s_rI0 ha.s hb.s⟩
theorem re_ge (ha : RE X C a ta fa) (hb : RE X C b tb fb) : RE X C (.Compare a [.GtE] [b] pos) (tOp (rI0 fun i j => .bl (decide (i ≥ j))) ta tb) (eOp (dCmp fun i j => decide (i ≥ j)) fa fb) := ⟨pe_cmpR op_ge ha.p hb.p (nomark _), s_op s_rI0 ha.s hb.s⟩
def isNon : D → Bool
  | .non => true
  | _ => false
def eIsN (neg : Bool) (f : E) : E := fun δ S => (f δ S).bind fun p => some (.bl (if neg then !isNon p.1 else isNon p.1), p.2)
theorem Rp.isNon {m : M} {H : Hp} {v : V} {d : D} (r : Rp K m H v d) : decide (v = .non) = Cb.isNon d := by
  cases r <;> simp [Cb.isNon]
theorem re_is {j p2} (ha : RE X C a ta fa) : RE X C (.Compare a [.Is] [.Constant .none j p2] pos) (tOp (fun x y H Q => y = .non ∧ Q (.bl (decide (x = .non))) H) ta (tC .non)) (eIsN false fa) :=
  ⟨pe_cmpR op_isN ha.p pe_non (nomark _), fun m σ H δ S d S' Q er sr hf q => by
    unfold eIsN at hf
    obtain ⟨⟨d1, S1⟩, q1, hf⟩ := Option.bind_eq_some_iff.mp hf
    cases hf
    refine ha.s m σ H δ S _ _ _ er sr q1 fun v m1 H1 e1 s1 r1 => ?_
    exact ⟨rfl, by rw [r1.isNon]; exact q _ m1 H1 e1 s1 (.bl _)⟩⟩
theorem re_isnot {j p2} (ha : RE X C a ta fa) : RE X C (.Compare a [.IsNot] [.Constant .none j p2] pos) (tOp (fun x y H Q => y = .non ∧ Q (.bl (!decide (x = .non))) H) ta (tC .non)) (eIsN true fa) :=
  ⟨pe_cmpR op_notN ha.p pe_non (nomark _), fun m σ H δ S d S' Q er sr hf q => by
    unfold eIsN at hf
    obtain ⟨⟨d1, S1⟩, q1, hf⟩ := Option.bind_eq_some_iff.mp hf
    cases hf
    refine ha.s m σ H δ S _ _ _ er sr q1 fun v m1 H1 e1 s1 r1 => ?_
    exact ⟨rfl, by rw [r1.isNon]; exact q _ m1 H1 e1 s1 (.bl _)⟩⟩
end
end Cb
namespace Cb
open PySem L2

section
variable {X : Cx} {C : Addr} {pos : Pos} {a b c e : Expr} {es : List Expr} {ta tb tc te : TE} {tA : TA} {fa fb fc f : E} {g : A}

/-! ### tests -/
def tOf (f : E) : T := fun δ S => (f δ S).bind fun p => match p.1 with | .bl b => some (b, p.2) | _ => none
theorem s_tOf {t : TE} {K : PySem.W.Frag} (h : ESem C K t f) : TSem C K (tTest t) (tOf f) := fun m σ H δ S b S' Q er sr hf q => by
  unfold tOf at hf
  obtain ⟨⟨d1, S1⟩, q1, hf⟩ := Option.bind_eq_some_iff.mp hf
  split at hf
  · rename_i k hk
    have hk : d1 = .bl k := hk
    subst hk
    cases hf
    refine h m σ H δ S _ _ _ er sr q1 fun v m1 H1 e1 s1 r1 => ?_
    cases r1
    exact ⟨_, rfl, q m1 H1 e1 s1⟩
  · cases hf
theorem s_tOfB {t : TE} {K : PySem.W.Frag} (h : ESem C K t f) : TSem C K (tB t) (tOf f) := s_tOf h
/-- a comparison, as a value and as a test -/
structure RC (X : Cx) (C : Addr) (e : Expr) (t : TE) (f : E) : Prop where
  p : PE X e t
  q : PT X e (tTest t)
  s : ESem C X.K t f
theorem re_c (h : RC X C e te f) : RE X C e te f := ⟨h.p, h.s⟩
theorem rt_c (h : RC X C e te f) : RT X C e (tTest te) (tOf f) := ⟨h.q, s_tOf h.s⟩
theorem rc_op {op : CmpOp} {r : R2} {gg : Op2} (ho : OpR X (compareOp op) r) (hs : R2Sem C X.K r gg) (ha : RE X C a ta fa) (hb : RE X C b tb fb) (hm : behindInMarks op b = false) : RC X C (.Compare a [op] [b] pos) (tOp r ta tb) (eOp gg fa fb) :=
  ⟨pe_cmpR ho ha.p hb.p hm, pt_cmpR ho ha.p hb.p hm, s_op hs ha.s hb.s⟩
theorem rc_eq {L : Nat} (hu : X.A.units + L < cLine) (ha : RE X C a ta fa) (hb : RE X C b tb fb) : RC X C (.Compare a [.Eq] [b] pos) (tOp (rEqX X.K L) ta tb) (eOp (dEq L) fa fb) := rc_op (op_eq.or (op_eqL hu)) s_eqX ha hb (nomark _)
theorem rc_ne {L : Nat} (hu : X.A.units + L < cLine) (ha : RE X C a ta fa) (hb : RE X C b tb fb) : RC X C (.Compare a [.NotEq] [b] pos) (tOp (rNeX X.K L) ta tb) (eOp (dNe L) fa fb) := rc_op (op_ne.or (op_neL hu)) s_neX ha hb (nomark _)
theorem rc_lt (ha : RE X C a ta fa) (hb : RE X C b tb fb) : RC X C (.Compare a [.Lt] [b] pos) (tOp (rI0 fun i j => .bl (decide (i < j))) ta tb) (eOp (dCmp fun i j => decide (i < j)) fa fb) := rc_op op_lt s_rI0 ha hb (nomark _)
theorem rc_le (ha : RE X C a ta fa) (hb : RE X C b tb fb) : RC X C (.Compare a [.LtE] [b] pos) (tOp (rI0 fun i j => .bl (decide (i ≤ j))) ta tb) (eOp (dCmp fun i j => decide (i ≤ j)) fa fb) := rc_op op_le s_rI0 ha hb (nomark _)
theorem rc_gt (ha : RE X C a ta fa) (hb : RE X C b tb fb) : RC X C (.Compare a [.Gt] [b] pos) (tOp (rI0 fun i j => .bl (decide (i > j))) ta tb) (eOp (dCmp fun i j => decide (i > j)) fa fb) := rc_op op_gt s_rI0 ha hb (nomark _)
theorem rc_ge (ha : RE X C a ta fa) (hb : RE X C b tb fb) : RC X C (.Compare a [.GtE] [b] pos) (tOp (rI0 fun i j => .bl (decide (i ≥ j))) ta tb) (eOp (dCmp fun i j => decide (i ≥ j)) fa fb) := rc_op op_ge s_rI0 ha hb (nomark _)
def dIsN (neg : Bool) : Op2 := fun d e _ => match e with | .non => some (.bl (if neg then !isNon d else isNon d)) | _ => none
theorem s_isN {K : PySem.W.Frag} : R2Sem C K (fun x y H Q => y = .non ∧ Q (.bl (decide (x = .non))) H) (dIsN false) := fun m H x y d1 d2 S d Q r1 r2 sr hf q => by
  unfold dIsN at hf
  split at hf
  · cases hf; cases r2
    exact ⟨rfl, by rw [r1.isNon]; exact q _ m H .refl sr (.bl _)⟩
  · cases hf
theorem s_notN {K : PySem.W.Frag} : R2Sem C K (fun x y H Q => y = .non ∧ Q (.bl (!decide (x = .non))) H) (dIsN true) := fun m H x y d1 d2 S d Q r1 r2 sr hf q => by
  unfold dIsN at hf
  split at hf
  · cases hf; cases r2
    exact ⟨rfl, by rw [r1.isNon]; exact q _ m H .refl sr (.bl _)⟩
  · cases hf
theorem rc_is (ha : RE X C a ta fa) (hb : RE X C b tb fb) : RC X C (.Compare a [.Is] [b] pos) (tOp (fun x y H Q => y = .non ∧ Q (.bl (decide (x = .non))) H) ta tb) (eOp (dIsN false) fa fb) := rc_op op_isN s_isN ha hb (nomark _)
theorem rc_isnot (ha : RE X C a ta fa) (hb : RE X C b tb fb) : RC X C (.Compare a [.IsNot] [b] pos) (tOp (fun x y H Q => y = .non ∧ Q (.bl (!decide (x = .non))) H) ta tb) (eOp (dIsN true) fa fb) := rc_op op_notN s_notN ha hb (nomark _)
/-- lo ? x ? hi -/
def eChain (g1 g2 : Op2) (f1 f2 f3 : E) : E := fun δ S => (f1 δ S).bind fun p => (f2 δ p.2).bind fun q => (g1 p.1 q.1 q.2).bind fun d => match d with
  | .bl true => (f3 δ q.2).bind fun r => (g2 q.1 r.1 r.2).bind fun d => some (d, r.2)
  | .bl false => some (.bl false, q.2)
  | _ => none
theorem s_chain {K : PySem.W.Frag} {r r' : R2} {g1 g2 : Op2} (hs1 : R2Sem C K r g1) (hs2 : R2Sem C K r' g2) (h1 : ESem C K ta fa) (h2 : ESem C K tb fb) (h3 : ESem C K tc fc) : ESem C K (tChain r r' ta tb tc) (eChain g1 g2 fa fb fc) := fun m σ H δ S d S' Q er sr hf q => by
  unfold eChain at hf
  obtain ⟨⟨d1, S1⟩, q1, hf⟩ := Option.bind_eq_some_iff.mp hf
  obtain ⟨⟨d2, S2⟩, q2, hf⟩ := Option.bind_eq_some_iff.mp hf
  obtain ⟨d3, q3, hf⟩ := Option.bind_eq_some_iff.mp hf
  refine h1 m σ H δ S d1 S1 _ er sr q1 fun v m1 H1 e1 s1 r1 => ?_
  refine h2 m1 σ H1 δ S1 d2 S2 _ (er.ev e1) s1 q2 fun u m2 H2 e2 s2 r2 => ?_
  refine hs1 m2 H2 v u d1 d2 S2 d3 _ (r1.ev e2) r2 s2 q3 fun w m3 H3 e3 s3 r3 => ?_
  split at hf
  · obtain ⟨⟨d4, S4⟩, q4, hf⟩ := Option.bind_eq_some_iff.mp hf
    obtain ⟨d5, q5, hf⟩ := Option.bind_eq_some_iff.mp hf
    cases hf
    cases r3
    refine ⟨_, rfl, iteT ?_⟩
    refine h3 m3 σ H3 δ S2 d4 S4 _ (er.ev (e1.trans (e2.trans e3))) s3 q4 fun w m4 H4 e4 s4 r4 => ?_
    exact hs2 m4 H4 u w d2 d4 S4 _ _ (r2.ev (e3.trans e4)) r4 s4 q5 fun z m5 H5 e5 s5 r5 => q z m5 H5 (e1.trans (e2.trans (e3.trans (e4.trans e5)))) s5 r5
  · cases hf
    cases r3
    exact ⟨_, rfl, iteF (q _ m3 H3 (e1.trans (e2.trans e3)) s3 (.bl _))⟩
  · cases hf
theorem rc_chain {op op' : CmpOp} {r r' : R2} {g1 g2 : Op2} (ho : OpR X (compareOp op) r) (ho' : OpR X (compareOp op') r') (hs1 : R2Sem C X.K r g1) (hs2 : R2Sem C X.K r' g2) (ha : RE X C a ta fa) (hb : RE X C b tb fb) (hc : RE X C c tc fc)
    (hm : lastMarks [op, op'] [b, c] = false := by with_unfolding_all rfl) : RC X C (.Compare a [op, op'] [b, c] pos) (tChain r r' ta tb tc) (eChain g1 g2 fa fb fc) :=
  ⟨pe_chain ho ho' ha.p hb.p hc.p hm, pt_chain ho ho' ha.p hb.p hc.p hm, s_chain hs1 hs2 ha.s hb.s hc.s⟩
theorem rc_lele (ha : RE X C a ta fa) (hb : RE X C b tb fb) (hc : RE X C c tc fc) (hm : lastMarks [.LtE, .LtE] [b, c] = false := by with_unfolding_all rfl) :
    RC X C (.Compare a [.LtE, .LtE] [b, c] pos) (tChain (rI0 fun i j => .bl (decide (i ≤ j))) (rI0 fun i j => .bl (decide (i ≤ j))) ta tb tc) (eChain (dCmp fun i j => decide (i ≤ j)) (dCmp fun i j => decide (i ≤ j)) fa fb fc) := rc_chain op_le op_le s_rI0 s_rI0 ha hb hc hm
theorem rc_ltlt (ha : RE X C a ta fa) (hb : RE X C b tb fb) (hc : RE X C c tc fc) (hm : lastMarks [.Lt, .Lt] [b, c] = false := by with_unfolding_all rfl) :
    RC X C (.Compare a [.Lt, .Lt] [b, c] pos) (tChain (rI0 fun i j => .bl (decide (i < j))) (rI0 fun i j => .bl (decide (i < j))) ta tb tc) (eChain (dCmp fun i j => decide (i < j)) (dCmp fun i j => decide (i < j)) fa fb fc) := rc_chain op_lt op_lt s_rI0 s_rI0 ha hb hc hm
/-- any expression that is True or False -/
theorem rt_val (h : RE X C e te f) (he : ∀ whole, isTrue e X.env whole = (do let v ← whole; standAt e.pos; holding [v] (truthy v)) := by intro _; rfl) : RT X C e (tB te) (tOf f) := ⟨pt_val h.p he, s_tOfB h.s⟩
structure RW (X : Cx) (C : Addr) (e : Expr) (t : TT) (f : T) : Prop where
  p : PW X e t
  s : TSem C X.K t f
def tfAnd (f g : T) : T := fun δ S => (f δ S).bind fun p => if p.1 = true then g δ p.2 else some (false, p.2)
def tfOr (f g : T) : T := fun δ S => (f δ S).bind fun p => if p.1 = true then some (true, p.2) else g δ p.2
def tfNot (f : T) : T := fun δ S => (f δ S).bind fun p => some (!p.1, p.2)
variable {t1 t2 : TT} {g1 g2 : T} {rest : List Expr}
theorem s_and {K : PySem.W.Frag} (h1 : TSem C K t1 g1) (h2 : TSem C K t2 g2) : TSem C K (tAnd t1 t2) (tfAnd g1 g2) := fun m σ H δ S b S' Q er sr hf q => by
  unfold tfAnd at hf
  obtain ⟨⟨b1, S1⟩, q1, hf⟩ := Option.bind_eq_some_iff.mp hf
  refine h1 m σ H δ S b1 S1 _ er sr q1 fun m1 H1 e1 s1 => ?_
  cases b1 with
  | true => exact iteT (h2 m1 σ H1 δ S1 b S' _ (er.ev e1) s1 hf fun m2 H2 e2 s2 => q m2 H2 (e1.trans e2) s2)
  | false => cases hf; exact iteF (q m1 H1 e1 s1)
theorem s_or {K : PySem.W.Frag} (h1 : TSem C K t1 g1) (h2 : TSem C K t2 g2) : TSem C K (tOr t1 t2) (tfOr g1 g2) := fun m σ H δ S b S' Q er sr hf q => by
  unfold tfOr at hf
  obtain ⟨⟨b1, S1⟩, q1, hf⟩ := Option.bind_eq_some_iff.mp hf
  refine h1 m σ H δ S b1 S1 _ er sr q1 fun m1 H1 e1 s1 => ?_
  cases b1 with
  | false => exact iteF (h2 m1 σ H1 δ S1 b S' _ (er.ev e1) s1 hf fun m2 H2 e2 s2 => q m2 H2 (e1.trans e2) s2)
  | true => cases hf; exact iteT (q m1 H1 e1 s1)
theorem rw_and1 (h : RT X C a t1 g1) : RW X C (.BoolOp .And [a] pos) t1 g1 := ⟨pw_and1 h.p, h.s⟩
theorem rw_or1 (h : RT X C a t1 g1) : RW X C (.BoolOp .Or [a] pos) t1 g1 := ⟨pw_or1 h.p, h.s⟩
theorem rw_and (h : RT X C a t1 g1) (h2 : RW X C (.BoolOp .And (b :: rest) pos) t2 g2) : RW X C (.BoolOp .And (a :: b :: rest) pos) (tAnd t1 t2) (tfAnd g1 g2) := ⟨pw_and h.p h2.p, s_and h.s h2.s⟩
theorem rw_or (h : RT X C a t1 g1) (h2 : RW X C (.BoolOp .Or (b :: rest) pos) t2 g2) : RW X C (.BoolOp .Or (a :: b :: rest) pos) (tOr t1 t2) (tfOr g1 g2) := ⟨pw_or h.p h2.p, s_or h.s h2.s⟩
theorem rt_w (h : RW X C e t1 g1) : RT X C e t1 g1 := ⟨h.p.pt, h.s⟩
theorem rt_not (h : RT X C a t1 g1) : RT X C (.UnaryOp .Not a pos) (tNot t1) (tfNot g1) := ⟨pt_not h.p, fun m σ H δ S b S' Q er sr hf q => by
  unfold tfNot at hf
  obtain ⟨⟨b1, S1⟩, q1, hf⟩ := Option.bind_eq_some_iff.mp hf
  cases hf
  exact h.s m σ H δ S b1 S1 _ er sr q1 fun m1 H1 e1 s1 => q m1 H1 e1 s1⟩
/-! as values -/
def eAnd (f g : E) : E := fun δ S => (f δ S).bind fun p => match p.1 with | .bl true => g δ p.2 | .bl false => some (.bl false, p.2) | _ => none
def eOr (f g : E) : E := fun δ S => (f δ S).bind fun p => match p.1 with | .bl true => some (.bl true, p.2) | .bl false => g δ p.2 | _ => none
def eNot (f : E) : E := fun δ S => (f δ S).bind fun p => match p.1 with | .bl b => some (.bl (!b), p.2) | _ => none
theorem re_one {op} (h : RE X C a ta fa) : RE X C (.BoolOp op [a] pos) ta fa := ⟨pe_one h.p, h.s⟩
theorem re_and (h : RE X C a ta fa) (h2 : RE X C (.BoolOp .And (b :: rest) pos) tb fb) : RE X C (.BoolOp .And (a :: b :: rest) pos) (tAndV ta tb) (eAnd fa fb) := ⟨pe_and h.p h2.p, fun m σ H δ S d S' Q er sr hf q => by
  unfold eAnd at hf
  obtain ⟨⟨d1, S1⟩, q1, hf⟩ := Option.bind_eq_some_iff.mp hf
  refine h.s m σ H δ S d1 S1 _ er sr q1 fun v m1 H1 e1 s1 r1 => ?_
  split at hf
  · rename_i hk
    have hk : d1 = .bl true := hk
    subst hk
    cases r1
    exact ⟨_, rfl, iteT (h2.s m1 σ H1 δ S1 d S' _ (er.ev e1) s1 hf fun v m2 H2 e2 s2 r2 => q v m2 H2 (e1.trans e2) s2 r2)⟩
  · rename_i hk
    have hk : d1 = .bl false := hk
    subst hk
    cases hf; cases r1
    exact ⟨_, rfl, iteF (q _ m1 H1 e1 s1 (.bl _))⟩
  · cases hf⟩
theorem re_or (h : RE X C a ta fa) (h2 : RE X C (.BoolOp .Or (b :: rest) pos) tb fb) : RE X C (.BoolOp .Or (a :: b :: rest) pos) (tOrV ta tb) (eOr fa fb) := ⟨pe_or h.p h2.p, fun m σ H δ S d S' Q er sr hf q => by
  unfold eOr at hf
  obtain ⟨⟨d1, S1⟩, q1, hf⟩ := Option.bind_eq_some_iff.mp hf
  refine h.s m σ H δ S d1 S1 _ er sr q1 fun v m1 H1 e1 s1 r1 => ?_
  split at hf
  · rename_i hk
    have hk : d1 = .bl true := hk
    subst hk
    cases hf; cases r1
    exact ⟨_, rfl, iteT (q _ m1 H1 e1 s1 (.bl _))⟩
  · rename_i hk
    have hk : d1 = .bl false := hk
    subst hk
    cases r1
    exact ⟨_, rfl, iteF (h2.s m1 σ H1 δ S1 d S' _ (er.ev e1) s1 hf fun v m2 H2 e2 s2 r2 => q v m2 H2 (e1.trans e2) s2 r2)⟩
  · cases hf⟩
theorem re_not (h : RE X C a ta fa) : RE X C (.UnaryOp .Not a pos) (tNotV ta) (eNot fa) := ⟨pe_not h.p, fun m σ H δ S d S' Q er sr hf q => by
  unfold eNot at hf
  obtain ⟨⟨d1, S1⟩, q1, hf⟩ := Option.bind_eq_some_iff.mp hf
  refine h.s m σ H δ S d1 S1 _ er sr q1 fun v m1 H1 e1 s1 r1 => ?_
  split at hf
  · rename_i k hk
    have hk : d1 = .bl k := hk
    subst hk
    cases hf; cases r1
    exact ⟨_, rfl, q _ m1 H1 e1 s1 (.bl _)⟩
  · cases hf⟩
/-- x or y of texts -/
def eOrS (f g : E) : E := fun δ S => (f δ S).bind fun p => match p.1 with | .str x => if x.length ≤ sizeLine then (if (x.length : Int) != 0 then some (.str x, p.2) else g δ p.2) else none | _ => none
theorem re_orS (h : RE X C a ta fa) (h2 : RE X C (.BoolOp .Or (b :: rest) pos) tb fb) : RE X C (.BoolOp .Or (a :: b :: rest) pos) (tOrT X.K ta tb) (eOrS fa fb) := ⟨pe_orT h.p h2.p, fun m σ H δ S d S' Q er sr hf q => by
  unfold eOrS at hf
  obtain ⟨⟨d1, S1⟩, q1, hf⟩ := Option.bind_eq_some_iff.mp hf
  refine h.s m σ H δ S d1 S1 _ er sr q1 fun v m1 H1 e1 s1 r1 => ?_
  split at hf
  · rename_i x hk
    have hk : d1 = .str x := hk
    subst hk
    split at hf
    · rename_i hl
      cases r1
      refine ⟨_, ⟨hl, rfl⟩, ?_⟩
      split at hf
      · rename_i hc
        cases hf
        rw [if_pos hc]
        exact q _ m1 H1 e1 s1 (.str _)
      · rename_i hc
        rw [if_neg hc]
        exact h2.s m1 σ H1 δ S1 d S' _ (er.ev e1) s1 hf fun v m2 H2 e2 s2 r2 => q v m2 H2 (e1.trans e2) s2 r2
    · cases hf
  · cases hf⟩
def eIf (f : T) (g h : E) : E := fun δ S => (f δ S).bind fun p => if p.1 = true then g δ p.2 else h δ p.2
theorem re_if (hc : RT X C c t1 g1) (ha : RE X C a ta fa) (hb : RE X C b tb fb) : RE X C (.IfExp c a b pos) (tIf t1 ta tb) (eIf g1 fa fb) := ⟨pe_ifExp hc.p ha.p hb.p, fun m σ H δ S d S' Q er sr hf q => by
  unfold eIf at hf
  obtain ⟨⟨b1, S1⟩, q1, hf⟩ := Option.bind_eq_some_iff.mp hf
  refine hc.s m σ H δ S b1 S1 _ er sr q1 fun m1 H1 e1 s1 => ?_
  cases b1 with
  | true => exact iteT (ha.s m1 σ H1 δ S1 d S' _ (er.ev e1) s1 hf fun v m2 H2 e2 s2 r2 => q v m2 H2 (e1.trans e2) s2 r2)
  | false => exact iteF (hb.s m1 σ H1 δ S1 d S' _ (er.ev e1) s1 hf fun v m2 H2 e2 s2 r2 => q v m2 H2 (e1.trans e2) s2 r2)⟩

/-! ### subscripts -/
def dIx : Op2 := fun d i S => match i with
  | .int i => match d with
    | .tup ds => atI ds i
    | .str z => if z.length ≤ sizeLine then (atI z.cps.toList i).bind fun c => some (.str ⟨#[c]⟩) else none
    | d => (seqL S d).bind fun ds => atI ds i
  | _ => none
theorem RpAll.atI {K : PySem.W.Frag} {m : M} {H : Hp} {vs : List V} {ds : List D} {i : Int} {d : D} (r : RpAll K m H vs ds) (h : L2.atI ds i = some d) : ∃ v, L2.atI vs i = some v ∧ Rp K m H v d := by
  unfold L2.atI at h ⊢
  rw [r.length]
  obtain ⟨j, h1, h2⟩ := Option.bind_eq_some_iff.mp h
  obtain ⟨v, h3, h4⟩ := r.get h2
  exact ⟨v, by rw [h1]; exact h3, h4⟩
theorem s_ix {K : PySem.W.Frag} : R2Sem C K (rIx K) dIx := fun m H x y d1 d2 S d Q r1 r2 sr hf q => by
  unfold dIx at hf
  split at hf
  · rename_i i
    cases r2
    split at hf
    · cases r1 with
      | tup h1 r =>
        obtain ⟨v, h2, h3⟩ := r.atI hf
        exact .inr (.inl ⟨_, _, _, v, rfl, rfl, h1, h2, q v m H .refl sr h3⟩)
    · split at hf
      · rename_i hl
        obtain ⟨c, h2, h3⟩ := Option.bind_eq_some_iff.mp hf
        cases h3
        cases r1
        exact .inr (.inr ⟨_, _, c, rfl, rfl, hl, h2, q _ m H .refl sr (.str _)⟩)
      · cases hf
    · obtain ⟨ds, h2, h3⟩ := Option.bind_eq_some_iff.mp hf
      obtain ⟨a, xs, e, h4, h5⟩ := rp_seqL sr r1 h2
      subst e
      obtain ⟨v, h6, h7⟩ := h5.atI h3
      exact .inl ⟨_, _, _, v, rfl, rfl, h4, h6, q v m H .refl sr h7⟩
  · cases hf
theorem re_ix (ha : RE X C a ta fa) (hb : RE X C b tb fb) (hs : PlainIx b := by exact fun _ _ => rfl) : RE X C (.Subscript a b pos) (tOp (rIx X.K) ta tb) (eOp dIx fa fb) := ⟨pe_ix ix_seq ha.p hb.p hs, s_op s_ix ha.s hb.s⟩
/-! slices -/
abbrev Pt := Sl → List O → Option (Option Int × List O)
def PtSem (C : Addr) (K : PySem.W.Frag) (t : TO) (f : Pt) : Prop := ∀ m σ H δ S b S' Q, ER K m H σ δ → SR C K m H S → f δ S = some (b, S') →
  (∀ m' H', Ev m H m' H' → SR C K m' H' S' → Q b H') → t σ H Q
structure RP (X : Cx) (C : Addr) (e : Option Expr) (t : TO) (f : Pt) : Prop where
  p : PO X e t
  s : PtSem C X.K t f
def ptN : Pt := fun _ S => some (none, S)
def ptS (f : E) : Pt := fun δ S => (f δ S).bind fun p => match p.1 with | .int i => some (some i, p.2) | _ => none
theorem rp_none : RP X C none tNoPart ptN := ⟨po_none, fun m σ H δ S b S' Q er sr hf q => by cases hf; exact q m H .refl sr⟩
theorem rp_some (h : RE X C e te f) : RP X C (some e) (tPart te) (ptS f) := ⟨po_some h.p, fun m σ H δ S b S' Q er sr hf q => by
  unfold ptS at hf
  obtain ⟨⟨d1, S1⟩, q1, hf⟩ := Option.bind_eq_some_iff.mp hf
  refine h.s m σ H δ S d1 S1 _ er sr q1 fun v m1 H1 e1 s1 r1 => ?_
  split at hf
  · rename_i i hk
    have hk : d1 = .int i := hk
    subst hk
    cases hf; cases r1
    exact ⟨_, rfl, q m1 H1 e1 s1⟩
  · cases hf⟩
def cutD {α : Type} (xs : List α) (lo hi : Option Int) : List α := (xs.drop (HT.sIx xs.length 0 lo)).take (HT.sIx xs.length xs.length hi - HT.sIx xs.length 0 lo)
theorem RpAll.cut {K : PySem.W.Frag} {m : M} {H : Hp} {vs : List V} {ds : List D} (r : RpAll K m H vs ds) (lo hi : Option Int) : RpAll K m H (cutV vs lo hi) (cutD ds lo hi) := by
  unfold cutV cutD
  rw [r.length]
  exact (r.drop _).take _
def dSl (d : D) (lo hi : Option Int) (S : List O) : Option D := match d with
  | .tup ds => some (.tup (cutD ds lo hi))
  | .str z => if z.length ≤ sizeLine then some (.str ⟨(cutD z.cps.toList lo hi).toArray⟩) else none
  | d => (seqL S d).bind fun ds => some (.lst (cutD ds lo hi))
def eSl (f : E) (lo hi : Pt) : E := fun δ S => (f δ S).bind fun p => (lo δ p.2).bind fun l => (hi δ l.2).bind fun h => (dSl p.1 l.1 h.1 h.2).bind fun d => some (d, h.2)
def rSlX (K : PySem.W.Frag) (rs : V → Option Int → Option Int → Hp → VK → Prop) : V → Option Int → Option Int → Hp → VK → Prop := fun x lo hi H Q => rSlL K x lo hi H Q ∨ rSlA K x lo hi H Q ∨ rs x lo hi H Q
end
end Cb
namespace Cb
open PySem L2

section
variable {X : Cx} {C : Addr} {pos : Pos} {a b c e : Expr} {es : List Expr} {ta tb tc te : TE} {tA : TA} {fa fb fc f : E} {g : A}
/-! slices -/
def dSlice (d : D) (lo hi : Option Int) (S : List O) : Option D := match d with
  | .tup ds => some (.tup (cutD ds lo hi))
  | .str z => if z.length ≤ sizeLine then some (.str (cutS z lo hi)) else none
  | d => (seqL S d).bind fun ds => some (.lst (cutD ds lo hi))
def eSlice (f : E) (lo hi : Pt) : E := fun δ S => (f δ S).bind fun p => (lo δ p.2).bind fun l => (hi δ l.2).bind fun h => (dSlice p.1 l.1 h.1 h.2).bind fun d => some (d, h.2)
def rSlAll (K : PySem.W.Frag) : V → Option Int → Option Int → Hp → VK → Prop := fun x lo hi H Q => rSlL K x lo hi H Q ∨ rSlA K x lo hi H Q ∨ rSlS x lo hi H Q
theorem sl_all : SlR X (rSlAll X.K) := SlR.or sl_list (SlR.or sl_tupA sl_str)
theorem cutD_whole {α : Type} {xs : List α} {lo hi : Option Int} (h : HT.sIx xs.length 0 lo = 0 ∧ HT.sIx xs.length xs.length hi = xs.length) : cutD xs lo hi = xs := by
  unfold cutD
  rw [h.1, h.2]
  simp
theorem s_slice {K : PySem.W.Frag} {m : M} {H : Hp} {x : V} {d0 d : D} {lo hi : Option Int} {S : List O} {Q : VK} (r1 : Rp K m H x d0) (sr : SR C K m H S) (h : dSlice d0 lo hi S = some d)
    (q : ∀ v m' H', Ev m H m' H' → SR C K m' H' S → Rp K m' H' v d → Q v H') : rSlAll K x lo hi H Q := by
  unfold dSlice at h
  split at h
  · cases h
    cases r1 with
    | tup h1 r =>
      refine .inr (.inl ⟨_, _, rfl, h1, fun e => ?_, fun _ p hp => ?_⟩)
      · rw [r.length] at e
        rw [cutD_whole e] at q
        exact q _ m H .refl sr (.tup h1 r)
      · exact q _ m _ (.lay hp) (sr.lay hp) (.tup (.of upd_same) ((r.cut lo hi).ev (.lay hp)))
  · split at h
    · rename_i hl
      cases h; cases r1
      exact .inr (.inr ⟨_, rfl, hl, q _ m H .refl sr (.str _)⟩)
    · cases h
  · obtain ⟨ds, h2, h3⟩ := Option.bind_eq_some_iff.mp h
    cases h3
    obtain ⟨a, xs, e, h4, h5⟩ := rp_seqL sr r1 h2
    subst e
    exact .inl ⟨_, _, rfl, h4, fun p hp => q _ m _ (.lay hp) (sr.lay hp) (.lst upd_same (sr.notin hp) ((h5.cut lo hi).ev (.lay hp)))⟩
theorem re_slice {lo hi : Option Expr} {tl th : TO} {fl fh : Pt} {p2 : Pos} (he : RE X C e te f) (hl : RP X C lo tl fl) (hh : RP X C hi th fh) : RE X C (.Subscript e (.Slice lo hi none p2) pos) (tSl (rSlAll X.K) te tl th) (eSlice f fl fh) :=
  ⟨pe_slice sl_all he.p hl.p hh.p, fun m σ H δ S d S' Q er sr hf q => by
    unfold eSlice at hf
    obtain ⟨⟨d1, S1⟩, q1, hf⟩ := Option.bind_eq_some_iff.mp hf
    obtain ⟨⟨l, S2⟩, q2, hf⟩ := Option.bind_eq_some_iff.mp hf
    obtain ⟨⟨h, S3⟩, q3, hf⟩ := Option.bind_eq_some_iff.mp hf
    obtain ⟨d4, q4, hf⟩ := Option.bind_eq_some_iff.mp hf
    cases hf
    refine he.s m σ H δ S d1 S1 _ er sr q1 fun v m1 H1 e1 s1 r1 => ?_
    refine hl.s m1 σ H1 δ S1 l S2 _ (er.ev e1) s1 q2 fun m2 H2 e2 s2 => ?_
    refine hh.s m2 σ H2 δ S2 h S3 _ (er.ev (e1.trans e2)) s2 q3 fun m3 H3 e3 s3 => ?_
    exact s_slice (r1.ev (e2.trans e3)) s3 q4 fun v m4 H4 e4 s4 r4 => q v m4 H4 (e1.trans (e2.trans (e3.trans e4))) s4 r4⟩
def lRev (f : E) : A := fun δ S => (f δ S).bind fun p => (seqL p.2 p.1).bind fun ds => some (ds.reverse, p.2)
theorem rl_rev {k : Nat} {p1 p2 p3 : Pos} (he : RE X C e te f) : RL X C (.Subscript e (.Slice none none (some (.UnaryOp .USub (.Constant (.int 1) k p1) p2)) p3) pos) (tRevL X.K te) (lRev f) :=
  ⟨pe_revL he.p, fun m σ H δ S d S' Q er sr hf q => by
    unfold lRev at hf
    obtain ⟨⟨d1, S1⟩, q1, hf⟩ := Option.bind_eq_some_iff.mp hf
    obtain ⟨ds, q2, hf⟩ := Option.bind_eq_some_iff.mp hf
    cases hf
    refine he.s m σ H δ S d1 S1 _ er sr q1 fun v m1 H1 e1 s1 r1 => ?_
    obtain ⟨a, xs, ee, h4, h5⟩ := rp_seqL s1 r1 q2
    subst ee
    exact ⟨_, _, rfl, h4, fun p hp => q p _ m1 _ (e1.trans (.lay hp)) (e1.free s1 hp) upd_same (s1.hideLay hp) (h5.reverse.hide hp (.lay hp))⟩⟩

/-! ### calls -/
abbrev Fn := List D → List O → Option (D × List O)
def spF (C : Addr) (K : PySem.W.Frag) (n : Nat) (F : Fn) : Sp := fun vs H Q _ => vs.length = n ∧ ∃ m S ds d S', RpAll K m H vs ds ∧ SR C K m H S ∧ F ds S = some (d, S') ∧
  ∀ v m' H', Ev m H m' H' → SR C K m' H' S' → Rp K m' H' v d → Q v H'
structure Cal (P : Program) (w : World) (K : PySem.W.Frag) (mg : Str → Option Value) (base : Heap) (C : Addr) (k : Nat) (x : Str) (n : Nat) (F : Fn) : Prop where
  ex : ∃ (f : Addr) (fd : FuncData) (ps : List Str), FnOk P w K mg base CX0 k f fd ps (spF C K n F) ∧ Binds K fd ps [] ∧ PySem.W.keepIn K (.ref f) = true ∧ mg x = some (.ref f)
def eCall (n : Nat) (F : Fn) (g : A) : E := fun δ S => (g δ S).bind fun p => if p.1.length = n then F p.1 p.2 else none
theorem s_call {K : PySem.W.Frag} {n : Nat} {F : Fn} {E0 : XK} (h : ASem C K tA g) : ESem C K (tCall (spF C K n F) [] E0 tA) (eCall n F g) := fun m σ H δ S d S' Q er sr hf q => by
  unfold eCall at hf
  obtain ⟨⟨ds, S1⟩, q1, hf⟩ := Option.bind_eq_some_iff.mp hf
  split at hf
  · rename_i hl
    refine h m σ H δ S ds S1 _ er sr q1 fun vs m1 H1 e1 s1 r1 => ?_
    rw [List.append_nil]
    exact ⟨by rw [r1.length]; exact hl, m1, S1, ds, d, S', r1, s1, hf, fun v m2 H2 e2 s2 r2 => q v m2 H2 (e1.trans e2) s2 r2⟩
  · cases hf
theorem re_call {k n : Nat} {x : Str} {F : Fn} {p : Pos} (cal : Cal X.prog X.w X.K X.mg X.base C k x n F) (hr : Room k X.A) (hg : Gl X x) (ha : RA X C (e :: es) tA g) (hdb : (x == ("__debug__" : Str)) = false := by decide)
    (he : starEach (e :: es) X.env = (false, eval e X.env) :: starEach es X.env := by rfl) (hpl : (backTo pos (starEach es X.env)).any (·.1) = false := by rfl) :
    RE X C (.Call (.Name x p) (e :: es) [] pos) (tCall (spF C X.K n F) [] E0 tA) (eCall n F g) := by
  obtain ⟨f, fd, ps, F', bd, kp, hm⟩ := cal.ex
  exact ⟨pe_call F' hr hg hm kp bd .nil pass0 ha.p hdb he hpl, s_call ha.s⟩
/-- a built-in's call, by values -/
abbrev Bi := List D → List O → Option D
def CSem (C : Addr) (K : PySem.W.Frag) (r : List V → Hp → VK → Prop) (g : Bi) : Prop := ∀ m H xs ds S d Q, RpAll K m H xs ds → SR C K m H S → g ds S = some d →
  (∀ v m' H', Ev m H m' H' → SR C K m' H' S → Rp K m' H' v d → Q v H') → r xs H Q
def eBi (k : Bi) (g : A) : E := fun δ S => (g δ S).bind fun p => (k p.1 p.2).bind fun d => some (d, p.2)
theorem s_bi {K : PySem.W.Frag} {r : List V → Hp → VK → Prop} {k : Bi} (hc : CSem C K r k) (h : ASem C K tA g) : ESem C K (tCB r tA) (eBi k g) := fun m σ H δ S d S' Q er sr hf q => by
  unfold eBi at hf
  obtain ⟨⟨ds, S1⟩, q1, hf⟩ := Option.bind_eq_some_iff.mp hf
  obtain ⟨d2, q2, hf⟩ := Option.bind_eq_some_iff.mp hf
  cases hf
  refine h m σ H δ S ds S1 _ er sr q1 fun vs m1 H1 e1 s1 r1 => ?_
  exact hc m1 H1 vs ds S1 d _ r1 s1 q2 fun v m2 H2 e2 s2 r2 => q v m2 H2 (e1.trans e2) s2 r2
theorem re_callB {id : String} {x : Str} {r : List V → Hp → VK → Prop} {k : Bi} {p : Pos} (hc : CallR X (.builtin id) r) (hs : CSem C X.K r k) (hg : Gl X x) (hm : X.mg x = none) (hv : bootBuiltins x = some (.builtin id)) (ha : RA X C (e :: es) tA g) (hn : x ≠ "__name__" := by decide) (hdb : (x == ("__debug__" : Str)) = false := by decide)
    (he : starEach (e :: es) X.env = (false, eval e X.env) :: starEach es X.env := by rfl) (hpl : (backTo pos (starEach es X.env)).any (·.1) = false := by rfl) :
    RE X C (.Call (.Name x p) (e :: es) [] pos) (tCB r tA) (eBi k g) := ⟨pe_callB hc hg hm hv ha.p hn hdb he hpl, s_bi hs ha.s⟩
theorem re_callTy {T : String} {x : Str} {r : List V → Hp → VK → Prop} {k : Bi} {p : Pos} (hc : CallR X (.type T) r) (hs : CSem C X.K r k) (hg : Gl X x) (hm : X.mg x = none) (hv : bootBuiltins x = some (.type T)) (ha : RA X C (e :: es) tA g) (hn : x ≠ "__name__" := by decide) (hdb : (x == ("__debug__" : Str)) = false := by decide)
    (he : starEach (e :: es) X.env = (false, eval e X.env) :: starEach es X.env := by rfl) (hpl : (backTo pos (starEach es X.env)).any (·.1) = false := by rfl) :
    RE X C (.Call (.Name x p) (e :: es) [] pos) (tCB r tA) (eBi k g) := ⟨pe_callTy hc hg hm hv ha.p hn hdb he hpl, s_bi hs ha.s⟩
/-- a built-in that hands back a new list -/
abbrev Bl := List D → List O → Option (List D)
def ClSem (C : Addr) (K : PySem.W.Frag) (r : List V → Hp → VK → Prop) (g : Bl) : Prop := ∀ m H xs ds S d Q, RpAll K m H xs ds → SR C K m H S → g ds S = some d →
  (∀ p ys, H p = none → RpAll K m H ys d → Q (.ref p) (upd H p (.lst ys))) → r xs H Q
def lBi (k : Bl) (g : A) : A := fun δ S => (g δ S).bind fun p => (k p.1 p.2).bind fun d => some (d, p.2)
theorem s_bl {K : PySem.W.Frag} {r : List V → Hp → VK → Prop} {k : Bl} (hc : ClSem C K r k) (h : ASem C K tA g) : LSem C K (tCB r tA) (lBi k g) := fun m σ H δ S d S' Q er sr hf q => by
  unfold lBi at hf
  obtain ⟨⟨ds, S1⟩, q1, hf⟩ := Option.bind_eq_some_iff.mp hf
  obtain ⟨d2, q2, hf⟩ := Option.bind_eq_some_iff.mp hf
  cases hf
  refine h m σ H δ S ds S1 _ er sr q1 fun vs m1 H1 e1 s1 r1 => ?_
  exact hc m1 H1 vs ds S1 _ _ r1 s1 q2 fun p ys hp r2 => q p ys m1 _ (e1.trans (.lay hp)) (e1.free s1 hp) upd_same (s1.hideLay hp) (r2.hide hp (.lay hp))
theorem rl_callB {id : String} {x : Str} {r : List V → Hp → VK → Prop} {k : Bl} {p : Pos} (hc : CallR X (.builtin id) r) (hs : ClSem C X.K r k) (hg : Gl X x) (hm : X.mg x = none) (hv : bootBuiltins x = some (.builtin id)) (ha : RA X C (e :: es) tA g) (hn : x ≠ "__name__" := by decide) (hdb : (x == ("__debug__" : Str)) = false := by decide)
    (he : starEach (e :: es) X.env = (false, eval e X.env) :: starEach es X.env := by rfl) (hpl : (backTo pos (starEach es X.env)).any (·.1) = false := by rfl) :
    RL X C (.Call (.Name x p) (e :: es) [] pos) (tCB r tA) (lBi k g) := ⟨pe_callB hc hg hm hv ha.p hn hdb he hpl, s_bl hs ha.s⟩
theorem rl_callTy {T : String} {x : Str} {r : List V → Hp → VK → Prop} {k : Bl} {p : Pos} (hc : CallR X (.type T) r) (hs : ClSem C X.K r k) (hg : Gl X x) (hm : X.mg x = none) (hv : bootBuiltins x = some (.type T)) (ha : RA X C (e :: es) tA g) (hn : x ≠ "__name__" := by decide) (hdb : (x == ("__debug__" : Str)) = false := by decide)
    (he : starEach (e :: es) X.env = (false, eval e X.env) :: starEach es X.env := by rfl) (hpl : (backTo pos (starEach es X.env)).any (·.1) = false := by rfl) :
    RL X C (.Call (.Name x p) (e :: es) [] pos) (tCB r tA) (lBi k g) := ⟨pe_callTy hc hg hm hv ha.p hn hdb he hpl, s_bl hs ha.s⟩

/-! len -/
def bLen : Bi := fun ds S => match ds with
  | [.tup xs] => some (.int xs.length)
  | [.str z] => if z.length ≤ sizeLine then some (.int z.length) else none
  | [d] => (seqL S d).bind fun xs => some (.int xs.length)
  | _ => none
def rLenX (K : PySem.W.Frag) : List V → Hp → VK → Prop := fun xs H Q => (∃ p ys, xs = [.ref p] ∧ (SqL K H p ys ∨ SqT K H p ys) ∧ Q (.int ys.length) H) ∨ ∃ z, xs = [.str z] ∧ z.length ≤ sizeLine ∧ Q (.int z.length) H
theorem call_lenX : CallR X (.builtin "len") (rLenX X.K) := call_len_seq.or call_len_str
theorem s_len {K : PySem.W.Frag} : CSem C K (rLenX K) bLen := fun m H xs ds S d Q r sr hf q => by
  unfold bLen at hf
  split at hf
  · cases hf
    cases r with
    | cons r1 rr =>
      cases rr
      cases r1 with
      | tup h1 r2 => exact .inl ⟨_, _, rfl, .inr h1, by rw [r2.length]; exact q _ m H .refl sr (.int _)⟩
  · split at hf
    · rename_i hl
      cases hf
      cases r with
      | cons r1 rr =>
        cases rr
        cases r1
        exact .inr ⟨_, rfl, hl, q _ m H .refl sr (.int _)⟩
    · cases hf
  · obtain ⟨ys, h1, h2⟩ := Option.bind_eq_some_iff.mp hf
    cases h2
    cases r with
    | cons r1 rr =>
      cases rr
      obtain ⟨a, zs, ee, h4, h5⟩ := rp_seqL sr r1 h1
      subst ee
      exact .inl ⟨_, _, rfl, .inl h4, by rw [h5.length]; exact q _ m H .refl sr (.int _)⟩
  · cases hf
/-! isinstance -/
def tyD (S : List O) : D → String
  | .non => "NoneType" | .bl _ => "bool" | .int _ => "int" | .str _ => "str" | .tup _ => "tuple" | .lst _ => "list" | .scr _ => "list" | .dic _ => "dict"
  | .ref n => match S[n]? with | some (.lst _) => "list" | some (.dic _) => "dict" | _ => "?"
  | .tun _ => "?" | .fn _ => "?"
def isD (T : String) (S : List O) (d : D) : Option Bool := if tyD S d = "?" then none else some (tyD S d == T || (T == "int" && tyD S d == "bool"))
def bIsi (T : String) : Bi := fun ds S => match ds with
  | [d] => (isD T S d).bind fun k => some (.bl k)
  | _ => none
theorem rp_ty {K : PySem.W.Frag} {m : M} {H : Hp} {S : List O} {v : V} {d : D} (s : SR C K m H S) (r : Rp K m H v d) (h : tyD S d ≠ "?") : TyX K H v (.type (tyD S d)) ∧ tyD S d ∈ ["NoneType", "bool", "int", "str", "tuple", "list", "dict"] := by
  cases r with
  | non => exact ⟨.base .non, by simp [tyD]⟩
  | bl b => exact ⟨.base (.bl b), by simp [tyD]⟩
  | int b => exact ⟨.base (.int b), by simp [tyD]⟩
  | str b => exact ⟨.base (.str b), by simp [tyD]⟩
  | tup h1 q =>
    refine ⟨?_, by simp [tyD]⟩
    rcases h1 with (h1 | ⟨o, h1⟩) | ⟨o, its, n, h1, h2, _⟩
    · exact .base (.tup h1)
    · exact .fTuple h1
    · exact .kTuple h1 h2
  | lst h1 n q => exact ⟨.base (.lst h1), by simp [tyD]⟩
  | scr h1 =>
    refine ⟨?_, by simp [tyD]⟩
    rcases h1 with ⟨o, h1⟩ | ⟨o, its, n, h1, h2, _⟩
    · exact .base (.frz h1)
    · exact .kList h1 h2
  | dic h1 n k q => exact ⟨.base (.dK h1), by simp [tyD]⟩
  | tun h1 h2 h3 q => simp [tyD] at h
  | fn h1 => simp [tyD] at h
  | @ref a n hn =>
    cases hs : S[n]? with
    | none => simp [tyD, hs] at h
    | some ob =>
      cases ob with
      | lst ds =>
        obtain ⟨vs, h1, h2⟩ := s.obj _ _ _ hn hs
        simp only [tyD, hs]
        exact ⟨.base (.lst h1), by simp⟩
      | dic ds =>
        obtain ⟨vs, h1, h2⟩ := s.obj _ _ _ hn hs
        simp only [tyD, hs]
        exact ⟨.base (.dK h1), by simp⟩
      | ins ds => simp [tyD, hs] at h
theorem kit_all : ∀ T ∈ ["int", "bool", "str", "tuple", "list"], ∀ s ∈ ["NoneType", "bool", "int", "str", "tuple", "list", "dict"], kitB s T = some (s == T || (T == "int" && s == "bool")) := by decide +kernel
theorem s_isi {K : PySem.W.Frag} {T : String} (hT : T ∈ ["int", "bool", "str", "tuple", "list"]) : CSem C K (fun xs H Q => ∃ x, xs = [x] ∧ rIsi K [x, .ty T] H Q) (bIsi T) := fun m H xs ds S d Q r sr hf q => by
  unfold bIsi at hf
  split at hf
  · rename_i d0
    obtain ⟨k, h1, h2⟩ := Option.bind_eq_some_iff.mp hf
    cases h2
    unfold isD at h1
    split at h1
    · cases h1
    · rename_i hne
      cases h1
      cases r with
      | cons r1 rr =>
        cases rr
        obtain ⟨t1, t2⟩ := rp_ty sr r1 hne
        exact ⟨_, rfl, _, _, _, _, _, rfl, .ty T, t1, kit_ty (kit_all T hT _ t2), q _ m H .refl sr (.bl _)⟩
  · cases hf
def eIsi (T : String) (f : E) : E := fun δ S => (f δ S).bind fun p => (isD T p.2 p.1).bind fun k => some (.bl k, p.2)
theorem re_isi {T : String} {x : Str} {p p' : Pos} (hT : T ∈ ["int", "bool", "str", "tuple", "list"]) (hg : Gl X "isinstance") (hm : X.mg "isinstance" = none) (hg2 : Gl X x) (hm2 : X.mg x = none) (hv2 : bootBuiltins x = some (.type T)) (ha : RE X C a ta f) (hn2 : x ≠ "__name__" := by decide) (hdb : (x == ("__debug__" : Str)) = false := by decide)
    (he : starEach [a, .Name x p'] X.env = (false, eval a X.env) :: starEach [.Name x p'] X.env := by rfl) (he2 : starEach [.Name x p'] X.env = (false, eval (.Name x p') X.env) :: starEach [] X.env := by rfl) (hpl : (backTo pos (starEach [.Name x p'] X.env)).any (·.1) = false := by rfl) :
    RE X C (.Call (.Name "isinstance" p) [a, .Name x p'] [] pos) (tCB (rIsi X.K) (tCons ta (tCons (tC (.ty T)) tNil))) (eIsi T f) :=
  ⟨pe_callB call_isi hg hm (by decide +kernel) (pa_cons ha.p (pa_cons (pe_bltn hg2 hm2 hv2 rfl hn2 hdb) pa_nil he2) he) (by decide) (by decide) he hpl, fun m σ H δ S d S' Q er sr hf q => by
    unfold eIsi at hf
    obtain ⟨⟨d1, S1⟩, q1, hf⟩ := Option.bind_eq_some_iff.mp hf
    obtain ⟨k, q2, hf⟩ := Option.bind_eq_some_iff.mp hf
    cases hf
    refine ha.s m σ H δ S d1 S1 _ er sr q1 fun v m1 H1 e1 s1 r1 => ?_
    obtain ⟨x, ex, h⟩ := s_isi hT m1 H1 [v] [d1] S1 (.bl k) Q (.cons r1 .nil) s1 (by simp [bIsi, q2]) fun v m2 H2 e2 s2 r2 => q v m2 H2 (e1.trans e2) s2 r2
    cases ex
    exact h⟩
/-! tuple(x), list(x), int(x), str(n), min(a, b), sum, all -/
def bTup : Bi := fun ds S => match ds with
  | [.tup xs] => some (.tup xs)
  | [d] => (seqL S d).bind fun xs => some (.tup xs)
  | _ => none
def rTupX (K : PySem.W.Frag) : List V → Hp → VK → Prop := fun xs H Q => ∃ p ys, xs = [.ref p] ∧ ((SqL K H p ys ∧ ∀ l, H l = none → Q (.ref l) (upd H l (.tup ys))) ∨ (SqT K H p ys ∧ Q (.ref p) H))
theorem s_tuple {K : PySem.W.Frag} : CSem C K (rTupX K) bTup := fun m H xs ds S d Q r sr hf q => by
  unfold bTup at hf
  split at hf
  · cases hf
    cases r with
    | cons r1 rr =>
      cases rr
      cases r1 with
      | tup h1 r2 => exact ⟨_, _, rfl, .inr ⟨h1, q _ m H .refl sr (.tup h1 r2)⟩⟩
  · obtain ⟨ys, h1, h2⟩ := Option.bind_eq_some_iff.mp hf
    cases h2
    cases r with
    | cons r1 rr =>
      cases rr
      obtain ⟨a, zs, ee, h4, h5⟩ := rp_seqL sr r1 h1
      subst ee
      exact ⟨_, _, rfl, .inl ⟨h4, fun p hp => q _ m _ (.lay hp) (sr.lay hp) (.tup (.of upd_same) (h5.ev (.lay hp)))⟩⟩
  · cases hf
def blList : Bl := fun ds S => match ds with
  | [.tup xs] => some xs
  | [d] => seqL S d
  | _ => none
def rListX (K : PySem.W.Frag) : List V → Hp → VK → Prop := fun xs H Q => ∃ p ys, xs = [.ref p] ∧ (SqL K H p ys ∨ SqT K H p ys) ∧ ∀ l, H l = none → Q (.ref l) (upd H l (.lst ys))
theorem s_list {K : PySem.W.Frag} : ClSem C K (rListX K) blList := fun m H xs ds S d Q r sr hf q => by
  unfold blList at hf
  split at hf
  · cases hf
    cases r with
    | cons r1 rr =>
      cases rr
      cases r1 with
      | tup h1 r2 => exact ⟨_, _, rfl, .inr h1, fun p hp => q p _ hp r2⟩
  · cases r with
    | cons r1 rr =>
      cases rr
      obtain ⟨a, zs, ee, h4, h5⟩ := rp_seqL sr r1 hf
      subst ee
      exact ⟨_, _, rfl, .inl h4, fun p hp => q p _ hp h5⟩
  · cases hf
/-- list(d) of a dict: its keys -/
def kD : Key → D
  | .inl i => .int i
  | .inr x => .str x
def dicS (S : List O) : D → Option (List (Key × D))
  | .dic ks => some ks
  | .ref n => match S[n]? with | some (.dic ks) => some ks | _ => none
  | _ => none
theorem rp_dicS {K : PySem.W.Frag} {m : M} {H : Hp} {S : List O} {v : V} {d : D} {ks : List (Key × D)} (s : SR C K m H S) (r : Rp K m H v d) (h : dicS S d = some ks) :
    ∃ a kvs, v = .ref a ∧ H a = some (.dK kvs) ∧ kvs.map (·.1) = ks.map (·.1) ∧ RpAll K m H (kvs.map (·.2)) (ks.map (·.2)) := by
  cases r with
  | dic h1 n k q => cases h; exact ⟨_, _, rfl, h1, k, q⟩
  | @ref a n hn =>
    have h : (match S[n]? with | some (O.dic ks) => some ks | _ => none) = some ks := h
    split at h
    · rename_i xs hs
      cases h
      obtain ⟨vs, h1, h2, h3⟩ := s.obj _ _ _ hn hs
      exact ⟨_, _, rfl, h1, h2, h3⟩
    · cases h
  | _ => cases h
def blListD : Bl := fun ds S => match ds with
  | [d] => (dicS S d).bind fun ks => some (ks.map fun k => kD k.1)
  | _ => none
theorem keys_rp {K : PySem.W.Frag} {m : M} {H : Hp} : ∀ {kvs : List (Key × V)} {ks : List (Key × D)}, kvs.map (·.1) = ks.map (·.1) → RpAll K m H (kvs.map fun kv => kV kv.1) (ks.map fun k => kD k.1)
  | [], [], _ => .nil
  | [], _ :: _, h => by simp at h
  | _ :: _, [], h => by simp at h
  | (k, v) :: kvs, (k', d) :: ks, h => by
    simp only [List.map_cons, List.cons.injEq] at h
    obtain ⟨h1, h2⟩ := h
    have h1 : k = k' := h1
    subst h1
    refine .cons ?_ (keys_rp h2)
    cases k
    · exact .int _
    · exact .str _
theorem s_listD {K : PySem.W.Frag} : ClSem C K rListD blListD := fun m H xs ds S d Q r sr hf q => by
  unfold blListD at hf
  split at hf
  · obtain ⟨ks, h1, h2⟩ := Option.bind_eq_some_iff.mp hf
    cases h2
    cases r with
    | cons r1 rr =>
      cases rr
      obtain ⟨a, kvs, ee, h4, h5, h6⟩ := rp_dicS sr r1 h1
      subst ee
      exact ⟨_, _, rfl, h4, fun p hp => q p _ hp (keys_rp h5)⟩
  · cases hf
def bInt : Bi := fun ds _ => match ds with
  | [.int i] => some (.int i)
  | [.bl k] => some (.int (if k then 1 else 0))
  | _ => none
theorem s_int {K : PySem.W.Frag} : CSem C K (fun xs H Q => (∃ i, xs = [.int i] ∧ Q (.int i) H) ∨ ∃ k, xs = [.bl k] ∧ Q (.int (if k then 1 else 0)) H) bInt := fun m H xs ds S d Q r sr hf q => by
  unfold bInt at hf
  split at hf
  · cases hf
    cases r with
    | cons r1 rr => cases rr; cases r1; exact .inl ⟨_, rfl, q _ m H .refl sr (.int _)⟩
  · cases hf
    cases r with
    | cons r1 rr => cases rr; cases r1; exact .inr ⟨_, rfl, q _ m H .refl sr (.int _)⟩
  · cases hf
def bStrI : Bi := fun ds _ => match ds with
  | [.int i] => if i.natAbs.log2 < 1920 then some (.str (toString i)) else none
  | _ => none
theorem s_strI {K : PySem.W.Frag} : CSem C K (fun xs H Q => ∃ i, xs = [.int i] ∧ i.natAbs.log2 < 1920 ∧ Q (.str (toString i)) H) bStrI := fun m H xs ds S d Q r sr hf q => by
  unfold bStrI at hf
  split at hf
  · split at hf
    · rename_i hl
      cases hf
      cases r with
      | cons r1 rr => cases rr; cases r1; exact ⟨_, rfl, hl, q _ m H .refl sr (.str _)⟩
    · cases hf
  · cases hf
def bMin : Bi := fun ds _ => match ds with
  | [.int i, .int j] => some (.int (if j < i then j else i))
  | _ => none
theorem s_min {K : PySem.W.Frag} : CSem C K (fun xs H Q => ∃ i j, xs = [.int i, .int j] ∧ Q (.int (if j < i then j else i)) H) bMin := fun m H xs ds S d Q r sr hf q => by
  unfold bMin at hf
  split at hf
  · cases hf
    cases r with
    | cons r1 rr => cases rr with | cons r2 rr => cases rr; cases r1; cases r2; exact ⟨_, _, rfl, q _ m H .refl sr (.int _)⟩
  · cases hf
end
end Cb
namespace Cb
open PySem L2

section
variable {X : Cx} {C : Addr} {pos : Pos} {a b c e tg : Expr} {es : List Expr} {ta tb tc te : TE} {tA : TA} {fa fb fc f : E} {g : A}
/-! ### targets -/
abbrev G := D → Sl → Option Sl
def GSem (C : Addr) (K : PySem.W.Frag) (t : TG) (g : G) (vs : List Nat) : Prop := ∀ m σ H δ S x d δ' Q, ER K m H σ δ → SR C K m H S → Rp K m H x d → g d δ = some δ' →
  (∀ σ', ER K m H σ' δ' → wipe σ' vs = wipe σ vs → Q σ' H) → t x σ H Q
structure RG (X : Cx) (C : Addr) (e : Expr) (t : TG) (g : G) (vs : List Nat) : Prop where
  p : PG X e t
  s : GSem C X.K t g vs
theorem wipe_set_out {σ : L2.St} {i : Nat} {o : Option V} : ∀ {vs : List Nat}, i ∈ vs → wipe (σ.set i o) vs = wipe σ vs
  | v :: vs, h => by
    unfold wipe
    by_cases hv : i ∈ vs
    · rw [wipe_set_out hv]
    · have e : i = v := by
        rcases List.mem_cons.mp h with q | q
        · exact q
        · exact absurd q hv
      subst e
      clear h
      have aux : ∀ (vs : List Nat) (σ : L2.St), i ∉ vs → wipe (σ.set i o) vs = (wipe σ vs).set i o := by
        intro vs
        induction vs with
        | nil => intro σ _; rfl
        | cons w ws ih =>
          intro σ hw
          unfold wipe
          rw [ih σ (fun z => hw (List.mem_cons_of_mem _ z)), List.set_comm _ _ (fun z => hw (by rw [z]; exact List.mem_cons_self))]
      rw [aux vs σ hv, List.set_set]
theorem wipe_wipe {σ : L2.St} : ∀ {vs ws : List Nat}, (∀ v ∈ ws, v ∈ vs) → wipe (wipe σ ws) vs = wipe σ vs
  | vs, [], _ => rfl
  | vs, w :: ws, h => by
    show wipe ((wipe σ ws).set w none) vs = _
    rw [wipe_set_out (h w List.mem_cons_self), wipe_wipe fun v hv => h v (List.mem_cons_of_mem _ hv)]
def wipeD (δ : Sl) : List Nat → Sl
  | [] => δ
  | v :: vs => (wipeD δ vs).set v none
theorem ER.wipe {K : PySem.W.Frag} {m : M} {H : Hp} {σ : L2.St} {δ : Sl} (h : ER K m H σ δ) : ∀ vs : List Nat, ER K m H (L2.wipe σ vs) (wipeD δ vs)
  | [] => h
  | v :: vs => (ER.wipe h vs).unset v
def gdName (i : Nat) : G := fun d δ => some (δ.set i (some d))
theorem rg_name {x : Str} {vs : List Nat} (i : Nat) (hv : i ∈ vs) (hN : X.N.Nodup) (hi : X.N[i]? = some x := by rfl) (hx : Loc X.env.scope x := by first | exact Or.inl rfl | exact Or.inr rfl) (hf : X.fn x = true ∨ X.env.scope.names.lookup x = some .local := by first | exact .inl rfl | exact .inr rfl | assumption) : RG X C (.Name x pos) (gName i) (gdName i) vs :=
  ⟨pg_name hN hi hx hf, fun m σ H δ S x d δ' Q er sr r h q => by
    cases h
    exact q _ (er.set i r) (wipe_set_out hv)⟩
abbrev Gs := List D → Sl → Option Sl
def GsSem (C : Addr) (K : PySem.W.Frag) (t : TGs) (g : Gs) (vs : List Nat) : Prop := ∀ m σ H δ S x d δ' Q, ER K m H σ δ → SR C K m H S → RpAll K m H x d → g d δ = some δ' →
  (∀ σ', ER K m H σ' δ' → wipe σ' vs = wipe σ vs → Q σ' H) → t x σ H Q
structure RGs (X : Cx) (C : Addr) (e : List Expr) (t : TGs) (g : Gs) (vs : List Nat) : Prop where
  p : PGs X e t
  s : GsSem C X.K t g vs
def gsNil : Gs := fun ds δ => match ds with | [] => some δ | _ => none
def gsCons (g : G) (gs : Gs) : Gs := fun ds δ => match ds with | d :: ds => (g d δ).bind fun δ1 => gs ds δ1 | _ => none
theorem rgs_nil {vs : List Nat} : RGs X C [] gNil gsNil vs := ⟨pgs_nil, fun m σ H δ S x d δ' Q er sr r h q => by
  unfold gsNil at h
  split at h
  · cases h; cases r; exact ⟨rfl, q _ er rfl⟩
  · cases h⟩
theorem rgs_cons {vs : List Nat} {t : TG} {ts : TGs} {g : G} {gs : Gs} (h1 : RG X C e t g vs) (h2 : RGs X C es ts gs vs) (hs : (assignEach (e :: es) X.env).map (·.2) = assign e X.env :: (assignEach es X.env).map (·.2) := by rfl) : RGs X C (e :: es) (gCons t ts) (gsCons g gs) vs := ⟨pgs_cons h1.p h2.p hs, fun m σ H δ S x d δ' Q er sr r h q => by
  unfold gsCons at h
  split at h
  · obtain ⟨δ1, q1, q2⟩ := Option.bind_eq_some_iff.mp h
    cases r with
    | cons r1 r2 =>
      refine ⟨_, _, rfl, h1.s m σ H δ S _ _ δ1 _ er sr r1 q1 fun σ1 er1 w1 => ?_⟩
      exact h2.s m σ1 H δ1 S _ _ δ' _ er1 sr r2 q2 fun σ2 er2 w2 => q σ2 er2 (w2.trans w1)
  · cases h⟩
def gdTup (n : Nat) (gs : Gs) : G := fun d δ => match d with | .tup ds => if ds.length = n then gs ds δ else none | _ => none
theorem rg_tup {vs : List Nat} {k n : Nat} {ts : TGs} {gs : Gs} (hc : X.calm = true) (h : RGs X C es ts gs vs) (hn : (assignEach es X.env).length = n := by rfl) (hst : (assignEach es X.env).findIdx? (·.1) = none := by rfl) : RG X C (.Tuple es k pos) (gTup X.K n ts) (gdTup n gs) vs :=
  ⟨pg_tup hc h.p hn hst, fun m σ H δ S x d δ' Q er sr r hh q => by
    unfold gdTup at hh
    split at hh
    · split at hh
      · rename_i hl
        cases r with
        | tup h1 r1 => exact ⟨_, _, rfl, h1, by rw [r1.length, hl], h.s m σ H δ S _ _ δ' _ er sr r1 hh q⟩
      · cases hh
    · cases hh⟩

/-! ### what is walked -/
/-- as Ev, and more may be hidden -/
structure EvH (m : M) (H : Hp) (m' : M) (H' : Hp) : Prop where
  ev : Ev m H ⟨m'.l, m.b⟩ H'
  hid : ∀ a, a ∈ m'.b → a ∈ m.b ∨ H a = none
theorem EvH.of {m m' : M} {H H' : Hp} (e : Ev m H m' H') : EvH m H m' H' := by
  obtain ⟨l, b⟩ := m'
  have hb : b = m.b := e.hid
  subst hb
  exact ⟨e, fun a h => .inl h⟩
theorem EvH.notin {m m' : M} {H H' : Hp} (e : EvH m H m' H') {a : Addr} {o : HO} (h : H a = some o) (n : ¬ m.has a) : ¬ m'.has a := fun z => by
  rcases z with z | z
  · exact e.ev.notin h n (.inl z)
  · rcases e.hid a z with q | q
    · exact n (.inr q)
    · rw [h] at q; cases q
mutual
theorem Rp.evH {K : PySem.W.Frag} {m m' : M} {H H' : Hp} (e : EvH m H m' H') : ∀ {v : V} {d : D}, Rp K m H v d → Rp K m' H' v d
  | _, _, .non => .non
  | _, _, .bl b => .bl b
  | _, _, .int i => .int i
  | _, _, .str x => .str x
  | _, _, .tup h r => .tup (e.ev.sqT h) (RpAll.evH e r)
  | _, _, .lst h n r => .lst (e.ev.keep _ _ h fun z => n (.inl z)) (e.notin h n) (RpAll.evH e r)
  | _, _, .scr h => .scr (e.ev.sqF h)
  | _, _, .dic h n k r => .dic (e.ev.keep _ _ h fun z => n (.inl z)) (e.notin h n) k (RpAll.evH e r)
  | _, _, .ref h => .ref (e.ev.at h)
  | _, _, .tun h h1 h2 r => .tun (e.ev.frz _ _ _ h) h1 h2 (RpAll.evH e r)
  | _, _, .fn h => .fn h
theorem RpAll.evH {K : PySem.W.Frag} {m m' : M} {H H' : Hp} (e : EvH m H m' H') : ∀ {vs : List V} {ds : List D}, RpAll K m H vs ds → RpAll K m' H' vs ds
  | _, _, .nil => .nil
  | _, _, .cons r rs => .cons (Rp.evH e r) (RpAll.evH e rs)
end
mutual
/-- a hidden list grows: nothing else sees it -/
theorem Rp.over {K : PySem.W.Frag} {m : M} {H : Hp} {p : Addr} {zs : List V} {o : HO} (hp : p ∈ m.b) (hl : H p = some (.lst zs)) : ∀ {v : V} {d : D}, Rp K m H v d → Rp K m (upd H p o) v d
  | _, _, .non => .non
  | _, _, .bl b => .bl b
  | _, _, .int i => .int i
  | _, _, .str x => .str x
  | _, _, .tup h r => .tup (by
      rcases h with (h | ⟨u, h⟩) | h
      · exact .inl (.inl (by rw [upd_ne (fun e => by subst e; rw [h] at hl; cases hl)]; exact h))
      · exact .inl (.inr ⟨u, by rw [upd_ne (fun e => by subst e; rw [h] at hl; cases hl)]; exact h⟩)
      · exact .inr h) (RpAll.over hp hl r)
  | _, _, .lst h n r => .lst (by rw [upd_ne (fun e => by subst e; exact n (.inr hp))]; exact h) n (RpAll.over hp hl r)
  | _, _, .scr h => .scr (by
      rcases h with ⟨u, h⟩ | h
      · exact .inl ⟨u, by rw [upd_ne (fun e => by subst e; rw [h] at hl; cases hl)]; exact h⟩
      · exact .inr h)
  | _, _, .dic h n k r => .dic (by rw [upd_ne (fun e => by subst e; exact n (.inr hp))]; exact h) n k (RpAll.over hp hl r)
  | _, _, .ref h => .ref h
  | _, _, .tun h h1 h2 r => .tun (by rw [upd_ne (fun e => by subst e; rw [h] at hl; cases hl)]; exact h) h1 h2 (RpAll.over hp hl r)
  | _, _, .fn h => .fn h
theorem RpAll.over {K : PySem.W.Frag} {m : M} {H : Hp} {p : Addr} {zs : List V} {o : HO} (hp : p ∈ m.b) (hl : H p = some (.lst zs)) : ∀ {vs : List V} {ds : List D}, RpAll K m H vs ds → RpAll K m (upd H p o) vs ds
  | _, _, .nil => .nil
  | _, _, .cons r rs => .cons (Rp.over hp hl r) (RpAll.over hp hl rs)
end
theorem SR.over {K : PySem.W.Frag} {m : M} {H : Hp} {S : List O} {p : Addr} {zs : List V} {o : HO} (s : SR C K m H S) (hp : p ∈ m.b) (hl : H p = some (.lst zs)) : SR C K m (upd H p o) S :=
  ⟨s.nd, s.len, fun n a ob h1 h2 => (s.obj n a ob h1 h2).mp (upd_ne (fun e => by subst e; exact s.apt a hp (List.mem_of_getElem? h1))) (RpAll.over hp hl), fun a ha => by
    by_cases e : a = p
    · rw [e, upd_same]; exact fun z => nomatch z
    · rw [upd_ne e]; exact s.hid a ha, s.apt⟩
theorem Ev.over {m m' : M} {H H' : Hp} {p : Addr} {o : HO} (e : Ev m H m' H') (hp : H p = none) : Ev m H m' (upd H' p o) :=
  ⟨e.pre, e.hid, e.new, fun a u h n => by rw [upd_ne (ne_of_none h hp)]; exact e.keep a u h n, fun a u h => by rw [upd_ne (ne_of_none h hp)]; exact e.tup a u h, fun a u v h => by rw [upd_ne (ne_of_none h hp)]; exact e.frz a u v h⟩
theorem EvH.keeps {m m' : M} {H H' : Hp} (e : EvH m H m' H') {a : Addr} {o : HO} (h : H a = some o) (n : a ∉ m.l) : H' a = some o := e.ev.keep a o h n
def Yld (C : Addr) (K : PySem.W.Frag) (J : It) (m0 : M) (H0 : Hp) (items : List D) : Prop := ∀ m H S, EvH m0 H0 m H → SR C K m H S →
  (∀ i, i < items.length → J.go i H) ∧ J.stop items.length H ∧ ∀ (i : Nat) d x H', items[i]? = some d → J.yld i H x H' → Ev m H m H' ∧ SR C K m H' S ∧ Rp K m H' x d
def ISem (C : Addr) (K : PySem.W.Frag) (wi : TI) (f : A) : Prop := ∀ m σ H δ S items S' R, ER K m H σ δ → SR C K m H S → f δ S = some (items, S') →
  (∀ J m' H', Ev m H m' H' → SR C K m' H' S' → Yld C K J m' H' items → R J H') → wi σ H R
structure RI (X : Cx) (C : Addr) (tg it : Expr) (wi : TI) (f : A) : Prop where
  p : PI X tg it wi
  s : ISem C X.K wi f
/-- a list that never changes -/
def seqP : D → Option (List D)
  | .lst xs => some xs
  | .scr ns => some (ns.map .int)
  | _ => none
theorem rp_seqP {K : PySem.W.Frag} {m : M} {H : Hp} {v : V} {d : D} {ds : List D} (r : Rp K m H v d) (h : seqP d = some ds) : ∃ a xs, v = .ref a ∧ (∀ m' H', EvH m H m' H' → SqL K H' a xs) ∧ RpAll K m H xs ds := by
  cases r with
  | lst h1 n r => cases h; exact ⟨_, _, rfl, fun m' H' e => .of (e.keeps h1 fun z => n (.inl z)), r⟩
  | scr h1 => cases h; exact ⟨_, _, rfl, fun m' H' e => (e.ev.sqF h1).sq, .ints _⟩
  | _ => cases h
def iSeq (f : E) : A := fun δ S => (f δ S).bind fun p => (seqP p.1).bind fun ds => some (ds, p.2)
theorem lt_get {α : Type} {l : List α} {i : Nat} (h : i < l.length) : ∃ x, l[i]? = some x := ⟨l[i], List.getElem?_eq_getElem h⟩
theorem ri_list (he : RE X C e te f) : RI X C tg e (iList X.K te) (iSeq f) := ⟨pi_list he.p, fun m σ H δ S items S' R er sr hf q => by
  unfold iSeq at hf
  obtain ⟨⟨d1, S1⟩, q1, hf⟩ := Option.bind_eq_some_iff.mp hf
  obtain ⟨ds, q2, hf⟩ := Option.bind_eq_some_iff.mp hf
  cases hf
  refine he.s m σ H δ S d1 S1 _ er sr q1 fun v m1 H1 e1 s1 r1 => ?_
  obtain ⟨a, xs, ee, h4, h5⟩ := rp_seqP r1 q2
  subst ee
  refine ⟨a, rfl, ⟨xs, h4 _ _ (.of .refl)⟩, q _ m1 H1 e1 s1 fun m2 H2 S2 e2 s2 => ?_⟩
  have hl := h5.length
  refine ⟨fun i hi => ?_, ⟨xs, h4 _ _ e2, by omega⟩, fun i d x H' hd y => ?_⟩
  · obtain ⟨x, hx⟩ := lt_get (l := xs) (i := i) (by omega)
    exact ⟨xs, x, h4 _ _ e2, hx⟩
  · obtain ⟨ey, y2⟩ := y
    subst ey
    obtain ⟨v, hv, rv⟩ := h5.get hd
    have := y2 xs (h4 _ _ e2)
    rw [hv] at this
    cases this
    exact ⟨.refl, s2, rv.evH e2⟩⟩
def iTupD (f : E) : A := fun δ S => (f δ S).bind fun p => match p.1 with | .tup ds => some (ds, p.2) | _ => none
theorem ri_tup (he : RE X C e te f) : RI X C tg e (iTup X.K te) (iTupD f) := ⟨pi_tup he.p, fun m σ H δ S items S' R er sr hf q => by
  unfold iTupD at hf
  obtain ⟨⟨d1, S1⟩, q1, hf⟩ := Option.bind_eq_some_iff.mp hf
  split at hf
  · rename_i ds hk
    have hk : d1 = .tup ds := hk
    subst hk
    cases hf
    refine he.s m σ H δ S _ S1 _ er sr q1 fun v m1 H1 e1 s1 r1 => ?_
    cases r1 with
    | @tup a xs _ h4 h5 =>
      refine ⟨a, rfl, ⟨xs, h4⟩, q _ m1 H1 e1 s1 fun m2 H2 S2 e2 s2 => ?_⟩
      have hl := h5.length
      refine ⟨fun i hi => ?_, ⟨xs, e2.ev.sqT h4, by omega⟩, fun i d x H' hd y => ?_⟩
      · obtain ⟨x, hx⟩ := lt_get (l := xs) (i := i) (by omega)
        exact ⟨xs, x, e2.ev.sqT h4, hx⟩
      · obtain ⟨ey, y2⟩ := y
        subst ey
        obtain ⟨v, hv, rv⟩ := h5.get hd
        have := y2 xs (e2.ev.sqT h4)
        rw [hv] at this
        cases this
        exact ⟨.refl, s2, rv.evH e2⟩
  · cases hf⟩
def iStrD (f : E) : A := fun δ S => (f δ S).bind fun p => match p.1 with | .str z => some (z.cps.toList.map fun c => .str ⟨#[c]⟩, p.2) | _ => none
theorem ri_str (he : RE X C e te f) : RI X C tg e (iStr te) (iStrD f) := ⟨pi_str he.p, fun m σ H δ S items S' R er sr hf q => by
  unfold iStrD at hf
  obtain ⟨⟨d1, S1⟩, q1, hf⟩ := Option.bind_eq_some_iff.mp hf
  split at hf
  · rename_i z hk
    have hk : d1 = .str z := hk
    subst hk
    cases hf
    refine he.s m σ H δ S _ S1 _ er sr q1 fun v m1 H1 e1 s1 r1 => ?_
    cases r1
    refine ⟨z, rfl, q _ m1 H1 e1 s1 fun m2 H2 S2 e2 s2 => ⟨fun i hi => ?_, ?_, fun i d x H' hd y => ?_⟩⟩
    · show i < z.cps.size
      simpa using hi
    · show z.cps.size ≤ _
      simp
    · obtain ⟨ey, c, hc, ex⟩ := y
      subst ey; subst ex
      have hc' : z.cps.toList[i]? = some c := by rw [Array.getElem?_toList]; exact hc
      rw [List.getElem?_map, hc'] at hd
      cases hd
      exact ⟨.refl, s2, .str _⟩
  · cases hf⟩
def rangeD (lo hi : Int) : List D := (List.range (hi - lo).toNat).map fun i => D.int (lo + (i : Nat))
def iRange1 (g : A) : A := fun δ S => (g δ S).bind fun p => match p.1 with
  | [.int j] => if -(2 ^ 62) ≤ j ∧ j < 2 ^ 62 then some (rangeD 0 j, p.2) else none
  | _ => none
def iRange2 (g : A) : A := fun δ S => (g δ S).bind fun p => match p.1 with
  | [.int i, .int j] => if -(2 ^ 62) ≤ i ∧ i < 2 ^ 62 ∧ -(2 ^ 62) ≤ j ∧ j < 2 ^ 62 then some (rangeD i j, p.2) else none
  | _ => none
theorem yld_range {K : PySem.W.Frag} {m : M} {H : Hp} (lo hi : Int) : Yld C K (Itr lo (hi - lo).toNat) m H (rangeD lo hi) := fun m2 H2 S2 e2 s2 => by
  have hl : (rangeD lo hi).length = (hi - lo).toNat := by simp [rangeD]
  refine ⟨fun i h => ?_, ?_, fun i d x H' hd y => ?_⟩
  · show i < (hi - lo).toNat
    omega
  · show (hi - lo).toNat ≤ _
    omega
  · obtain ⟨ey, ex⟩ := y
    subst ey; subst ex
    have hi' : i < (hi - lo).toNat := by
      have := (List.getElem?_eq_some_iff.mp hd).1
      omega
    unfold rangeD at hd
    rw [List.getElem?_map, List.getElem?_range hi'] at hd
    cases hd
    exact ⟨.refl, s2, .int _⟩
theorem ri_range1 {p : Pos} (hg : Gl X "range") (hm : X.mg "range" = none) (ha : RA X C [a] tA g) (hs : starEach [a] X.env = [(false, eval a X.env)] := by rfl) : RI X C tg (.Call (.Name "range" p) [a] [] pos) (iRng1 tA) (iRange1 g) := ⟨pi_range1 hg hm ha.p hs, fun m σ H δ S items S' R er sr hf q => by
  unfold iRange1 at hf
  obtain ⟨⟨ds, S1⟩, q1, hf⟩ := Option.bind_eq_some_iff.mp hf
  refine ha.s m σ H δ S _ S1 _ er sr q1 fun v m1 H1 e1 s1 r1 => ?_
  split at hf
  · rename_i j hk
    have hk : ds = [.int j] := hk
    subst hk
    split at hf
    · rename_i hb
      cases hf
      cases r1 with
      | cons r1 rr =>
        cases rr; cases r1
        have z := yld_range (C := C) (K := X.K) (m := m1) (H := H1) 0 j
        rw [Int.sub_zero] at z
        exact ⟨j, rfl, hb.1, hb.2, q _ m1 H1 e1 s1 z⟩
    · cases hf
  · cases hf⟩
theorem ri_range2 {p : Pos} (hg : Gl X "range") (hm : X.mg "range" = none) (ha : RA X C [a, b] tA g) (hs : starEach [a, b] X.env = [(false, eval a X.env), (false, eval b X.env)] := by rfl) (hs2 : starEach [b] X.env = [(false, eval b X.env)] := by rfl) : RI X C tg (.Call (.Name "range" p) [a, b] [] pos) (iRng2 tA) (iRange2 g) := ⟨pi_range2 hg hm ha.p hs hs2, fun m σ H δ S items S' R er sr hf q => by
  unfold iRange2 at hf
  obtain ⟨⟨ds, S1⟩, q1, hf⟩ := Option.bind_eq_some_iff.mp hf
  refine ha.s m σ H δ S _ S1 _ er sr q1 fun v m1 H1 e1 s1 r1 => ?_
  split at hf
  · rename_i i j hk
    have hk : ds = [.int i, .int j] := hk
    subst hk
    split at hf
    · rename_i hb
      cases hf
      cases r1 with
      | cons r1 rr =>
        cases rr with
        | cons r2 rr =>
          cases rr; cases r1; cases r2
          exact ⟨i, j, rfl, hb, q _ m1 H1 e1 s1 (yld_range i j)⟩
    · cases hf
  · cases hf⟩

/-! ### comprehensions -/
/-- the list's items from the walked ones, the slots as they are ahead of each turn -/
def lcD (gd : G) (c : T) (e : E) (δ : Sl) : List D → List O → Option (List D × List O)
  | [], S => some ([], S)
  | d :: ds, S => (gd d δ).bind fun δ1 => (c δ1 S).bind fun p => if p.1 = true then (e δ1 p.2).bind fun q => (lcD gd c e δ ds q.2).bind fun r => some (q.1 :: r.1, r.2) else lcD gd c e δ ds p.2
def tTrue : T := fun _ S => some (true, S)
def aLc (it : A) (gd : G) (c : T) (e : E) (vs : List Nat) : A := fun δ S => (it δ S).bind fun p => if p.1.length ≤ 10000000 then lcD gd c e (wipeD δ vs) p.1 p.2 else none
structure RTs (X : Cx) (C : Addr) (es : List Expr) (t : TT) (f : T) : Prop where
  p : PTs X es t
  s : TSem C X.K t f
theorem rts_nil : RTs X C [] tYes tTrue := ⟨pts_nil, fun m σ H δ S b S' Q er sr hf q => by cases hf; exact q m H .refl sr⟩
theorem rts_one {t : TT} {f : T} (h : RT X C e t f) : RTs X C [e] t f := ⟨pts_one h.p, h.s⟩
theorem small_acc {n : Nat} (h : n ≤ 10000000) : n < sizeLine := Nat.lt_of_le_of_lt h (by rw [sizeLine_eq]; decide)
theorem s_lc {K : PySem.W.Frag} {wi : TI} {gt : TG} {tt : TT} {it : A} {gd : G} {cf : T} {vs : List Nat} (hi : ISem C K wi it) (hg : GSem C K gt gd vs) (ht : TSem C K tt cf) (he : ESem C K te f) :
    LSem C K (tLc wi gt tt te vs) (aLc it gd cf f vs) := fun m σ H δ S ds S' Q er sr hf q => by
  unfold aLc at hf
  obtain ⟨⟨items, S1⟩, q1, hf⟩ := Option.bind_eq_some_iff.mp hf
  split at hf
  · rename_i hlen
    have hlen : items.length ≤ 10000000 := hlen
    refine hi m σ H δ S items S1 _ er sr q1 fun J m1 H1 e1 s1 Y p hp => ?_
    have hp0 : H p = none := e1.free s1 hp
    refine ⟨fun i n Hc => n = items.length - i ∧ i ≤ items.length ∧ ∃ lc Sc acc outs rest, Ev m1 H1 ⟨lc, m1.b⟩ Hc ∧ SR C K ⟨lc, p :: m1.b⟩ Hc Sc ∧ Hc p = some (.lst acc) ∧ acc.length ≤ i ∧ RpAll K ⟨lc, p :: m1.b⟩ Hc acc outs ∧
      lcD gd cf f (wipeD δ vs) (items.drop i) Sc = some (rest, S') ∧ ds = outs ++ rest ∧ ER K ⟨lc, p :: m1.b⟩ Hc σ δ, ⟨items.length, by simp, Nat.zero_le _, m1.l, S1, [], [], ds, .lay hp, s1.hideLay hp, upd_same, by simp, .nil, by simpa using hf, by simp, ?_⟩, ?_⟩
    · exact ⟨er.len, fun i d q => let ⟨v, a, b⟩ := (er.ev e1).get i d q; ⟨v, a, b.hide hp (.lay hp)⟩⟩
    rintro i n Hc ⟨rfl, hle, lc, Sc, acc, outs, rest, ey, sc, hacc, hal, racc, hl, hds, erc⟩
    have hpl : p ∉ lc := sc.apt p List.mem_cons_self
    obtain ⟨yg, ys, yy⟩ := Y ⟨lc, p :: m1.b⟩ Hc Sc ⟨ey, fun a ha => by
      rcases List.mem_cons.mp ha with q | q
      · subst q; exact .inr hp
      · exact .inl q⟩ sc
    by_cases hi' : i < items.length
    · refine .inr ⟨yg i hi', _, fun H' h => ⟨items.length - (i + 1), by omega, h⟩, fun x Hx y => ?_⟩
      obtain ⟨d, hd⟩ := lt_get hi'
      obtain ⟨ex, sx, rx⟩ := yy i d x Hx hd y
      have hdr : items.drop i = d :: items.drop (i + 1) := by
        rw [List.drop_eq_getElem_cons hi']
        rw [List.getElem?_eq_getElem hi'] at hd
        cases hd
        rfl
      rw [hdr] at hl
      unfold lcD at hl
      obtain ⟨δ1, g1, hl⟩ := Option.bind_eq_some_iff.mp hl
      obtain ⟨⟨b, S2⟩, c1, hl⟩ := Option.bind_eq_some_iff.mp hl
      have hx0 : Hx p = some (.lst acc) := ex.keep _ _ hacc hpl
      refine hg _ _ Hx _ Sc x d δ1 _ ((erc.ev ex).wipe vs) sx rx g1 fun σ1 er1 w1 => ⟨w1.trans (wipe_wipe fun v h => h), ?_⟩
      refine ht _ σ1 Hx δ1 Sc b S2 _ er1 sx c1 fun m2 H2 e2 s2 => ?_
      obtain ⟨l2, b2⟩ := m2
      have hb2 : b2 = p :: m1.b := e2.hid
      subst hb2
      have hx2 : H2 p = some (.lst acc) := e2.keep _ _ hx0 hpl
      have eyx : Ev m1 H1 ⟨lc, m1.b⟩ Hx := by
        refine { pre := ey.pre, hid := rfl, new := ey.new, tup := fun a u h => ex.tup _ _ (ey.tup _ _ h), frz := fun a u v h => ex.frz _ _ _ (ey.frz _ _ _ h), keep := fun a o h n => ?_ }
        have q := ey.keep a o h n
        refine ex.keep a o q fun z => ?_
        rcases ey.new a z with z | z
        · exact n z
        · rw [h] at z
          cases z
      have ey2 : Ev m1 H1 ⟨l2, m1.b⟩ H2 := eyx.trans ⟨e2.pre, rfl, e2.new, e2.keep, e2.tup, e2.frz⟩
      have hpl2 : p ∉ l2 := s2.apt p List.mem_cons_self
      cases b with
      | true =>
        have hl := hl
        rw [if_pos rfl] at hl ⊢
        obtain ⟨⟨d3, S3⟩, c3, hl⟩ := Option.bind_eq_some_iff.mp hl
        obtain ⟨⟨ds4, S4⟩, c4, hl⟩ := Option.bind_eq_some_iff.mp hl
        cases hl
        refine he _ σ1 H2 δ1 S2 d3 S3 _ (er1.ev e2) s2 c3 fun y m3 H3 e3 s3 r3 => ?_
        obtain ⟨l3, b3⟩ := m3
        have hb3 : b3 = p :: m1.b := e3.hid
        subst hb3
        have hx3 : H3 p = some (.lst acc) := e3.keep _ _ hx2 hpl2
        have ey3 : Ev m1 H1 ⟨l3, m1.b⟩ H3 := ey2.trans ⟨e3.pre, rfl, e3.new, e3.keep, e3.tup, e3.frz⟩
        have eall : Ev ⟨lc, p :: m1.b⟩ Hc ⟨l3, p :: m1.b⟩ H3 := ex.trans (e2.trans e3)
        refine ⟨acc, hx3, small_acc (by omega), rfl, hi', l3, S3, acc ++ [y], outs ++ [d3], ds4, ey3.over hp, s3.over List.mem_cons_self hx3, upd_same, by rw [List.length_append, List.length_singleton]; omega, ?_, c4, by rw [hds, List.append_assoc]; rfl, ?_⟩
        · exact RpAll.over List.mem_cons_self hx3 ((racc.ev eall).append (.cons r3 .nil))
        · exact ⟨erc.len, fun i d q => let ⟨v, a, b⟩ := (erc.ev eall).get i d q; ⟨v, a, b.over List.mem_cons_self hx3⟩⟩
      | false =>
        have hl := hl
        rw [if_neg (by exact Bool.false_ne_true)] at hl ⊢
        exact ⟨rfl, hi', l2, S2, acc, outs, rest, ey2, s2, hx2, by omega, racc.ev (ex.trans e2), hl, hds, erc.ev (ex.trans e2)⟩
    · have hi2 : i = items.length := by omega
      subst hi2
      refine .inl ⟨ys, ?_⟩
      rw [List.drop_length] at hl
      cases hl
      rw [List.append_nil] at hds
      subst hds
      exact q p acc ⟨lc, m1.b⟩ Hc (e1.trans ey) hp0 hacc sc racc
  · cases hf
end
end Cb
namespace Cb
open PySem PySem.Spec PyProof.Rows L2

section
variable {X : Cx} {C : Addr} {pos : Pos} {a b c e tg iter : Expr} {es : List Expr} {ta tb tc te : TE} {tA : TA} {fa fb fc f : E} {g : A}
/-! the widest readings -/
def cE (C : Addr) (K : PySem.W.Frag) (f : E) : TE := fun σ H Q => ∃ m δ S d S', ER K m H σ δ ∧ SR C K m H S ∧ f δ S = some (d, S') ∧ ∀ v m' H', Ev m H m' H' → SR C K m' H' S' → Rp K m' H' v d → Q v H'
def cT (C : Addr) (K : PySem.W.Frag) (f : T) : TT := fun σ H Q => ∃ m δ S d S', ER K m H σ δ ∧ SR C K m H S ∧ f δ S = some (d, S') ∧ ∀ m' H', Ev m H m' H' → SR C K m' H' S' → Q d H'
def cG (C : Addr) (K : PySem.W.Frag) (g : G) (vs : List Nat) : TG := fun x σ H Q => ∃ m δ S d δ', ER K m H σ δ ∧ SR C K m H S ∧ Rp K m H x d ∧ g d δ = some δ' ∧ ∀ σ', ER K m H σ' δ' → wipe σ' vs = wipe σ vs → Q σ' H
theorem RE.can {t : TE} (h : RE X C e t f) : RE X C e (cE C X.K f) f := ⟨⟨fun pins s σ H Q I ⟨m, δ, S, d, S', er, sr, hf, q⟩ => h.p.run pins s σ H Q I (h.s m σ H δ S d S' Q er sr hf q)⟩, fun m σ H δ S d S' Q er sr hf q => ⟨m, δ, S, d, S', er, sr, hf, q⟩⟩
theorem RTs.can {t : TT} {f : T} (h : RTs X C es t f) : RTs X C es (cT C X.K f) f := ⟨⟨fun pins s σ H Q I ⟨m, δ, S, d, S', er, sr, hf, q⟩ => h.p.run pins s σ H Q I (h.s m σ H δ S d S' Q er sr hf q)⟩, fun m σ H δ S d S' Q er sr hf q => ⟨m, δ, S, d, S', er, sr, hf, q⟩⟩
theorem RG.can {t : TG} {g : G} {vs : List Nat} (h : RG X C e t g vs) : RG X C e (cG C X.K g vs) g vs := ⟨⟨fun pins s σ H x v Q I r ⟨m, δ, S, d, δ', er, sr, rx, hf, q⟩ => h.p.run pins s σ H x v Q I r (h.s m σ H δ S x d δ' Q er sr rx hf q)⟩, fun m σ H δ S x d δ' Q er sr r hf q => ⟨m, δ, S, d, δ', er, sr, r, hf, q⟩⟩
structure RB (X : Cx) (C : Addr) (scope : Scope) (own : List (Str × Nat)) (tg : Expr) (ifs : List Expr) (elt : Expr) (gd : G) (cf : T) (f : E) : Prop where
  ok : BlkOk X.N X.env.scope scope own
  g : ∀ (s : Shared) (H : Hp) (C' : Addr) (cl : List (Str × Addr)) (fp : List Addr), ∃ t, RG (X.blk s H scope (compEnvC scope cl C' X.env) fp) C tg t gd (own.map (·.2))
  t : ∀ (s : Shared) (H : Hp) (C' : Addr) (cl : List (Str × Addr)) (fp : List Addr), ∃ t, RTs (X.blk s H scope (compEnvC scope cl C' X.env) fp) C ifs t cf
  e : ∀ (s : Shared) (H : Hp) (C' : Addr) (cl : List (Str × Addr)) (fp : List Addr), ∃ t, RE (X.blk s H scope (compEnvC scope cl C' X.env) fp) C elt t f
section
variable {elt : Expr} {ifs : List Expr} {scope : Scope} {own : List (Str × Nat)} {wi : TI} {it : A} {gd : G} {cf : T}
theorem RB.g' (b : RB X C scope own tg ifs elt gd cf f) (s : Shared) (H : Hp) (C' : Addr) (cl : List (Str × Addr)) (fp : List Addr) : RG (X.blk s H scope (compEnvC scope cl C' X.env) fp) C tg (cG C X.K gd (own.map (·.2))) gd (own.map (·.2)) :=
  let ⟨_, h⟩ := b.g s H C' cl fp; h.can
theorem RB.t' (b : RB X C scope own tg ifs elt gd cf f) (s : Shared) (H : Hp) (C' : Addr) (cl : List (Str × Addr)) (fp : List Addr) : RTs (X.blk s H scope (compEnvC scope cl C' X.env) fp) C ifs (cT C X.K cf) cf :=
  let ⟨_, h⟩ := b.t s H C' cl fp; h.can
theorem RB.e' (b : RB X C scope own tg ifs elt gd cf f) (s : Shared) (H : Hp) (C' : Addr) (cl : List (Str × Addr)) (fp : List Addr) : RE (X.blk s H scope (compEnvC scope cl C' X.env) fp) C elt (cE C X.K f) f :=
  let ⟨_, h⟩ := b.e s H C' cl fp; h.can
theorem rl_lc (hc : X.calm = true) (hN : X.N.Nodup) (hi : RI X C tg iter wi it) (b : RB X C scope own tg ifs elt gd cf f) (hs : ∀ x, foldedSetIterable iter X.env x = pure x := by intro _; rfl) :
    RL X C (.ListComp elt [⟨tg, iter, ifs, 0⟩] scope pos) (tLc wi (cG C X.K gd (own.map (·.2))) (cT C X.K cf) (cE C X.K f) (own.map (·.2))) (aLc it gd cf f (own.map (·.2))) :=
  ⟨pe_lc hc hN hi.p b.ok (fun s H C' cl fp => (b.g' s H C' cl fp).p) (fun s H C' cl fp => (b.t' s H C' cl fp).p) (fun s H C' cl fp => (b.e' s H C' cl fp).p) hs, s_lc hi.s (b.g' X.s_0 X.H_0 0 [] []).s (b.t' X.s_0 X.H_0 0 [] []).s (b.e' X.s_0 X.H_0 0 [] []).s⟩
end

/-! ### statements -/
def sSet (i : Nat) (f : E) : B := fun δ S => (f δ S).bind fun p => some (.nx (δ.set i (some p.1)) p.2)
theorem s_set {K : PySem.W.Frag} {i : Nat} (h : ESem C K te f) : SSem C K (tAsg te (gName i)) (sSet i f) := fun m σ H δ S o Z er sr hf q => by
  unfold sSet at hf
  obtain ⟨⟨d1, S1⟩, q1, hf⟩ := Option.bind_eq_some_iff.mp hf
  cases hf
  exact h m σ H δ S d1 S1 _ er sr q1 fun v m1 H1 e1 s1 r1 => q m1 _ H1 e1 ((er.ev e1).set i r1) s1
theorem rs_set {x : Str} {pos' : Pos} (i : Nat) (hN : X.N.Nodup) (he : RE X C e te f) (hi : X.N[i]? = some x := by rfl) (hx : Loc X.env.scope x := by first | exact Or.inl rfl | exact Or.inr rfl) (hs : swapsWith e (some (.Name x pos')) pos.line X.env = pure false := by rfl) (hf : X.fn x = true ∨ X.env.scope.names.lookup x = some .local := by first | exact .inl rfl | exact .inr rfl | assumption) :
    RS X C (.Assign [.Name x pos'] e pos) (tAsg te (gName i)) (sSet i f) := ⟨ps_set hN hi hx he.p hs hf, s_set he.s⟩
section
variable {elt : Expr} {ifs : List Expr} {scope : Scope} {own : List (Str × Nat)} {wi : TI} {it : A} {gd : G} {cf : T} {y : Str} {py spos : Pos}
theorem rs_lc (i : Nat) (hc : X.calm = true) (hN : X.N.Nodup) (hi : RI X C tg iter wi it) (b : RB X C scope own tg ifs elt gd cf f)
    (hsw : swapsWith (.ListComp elt [⟨tg, iter, ifs, 0⟩] scope pos) (some (.Name y py)) spos.line X.env = pure true)
    (hy : X.N[i]? = some y := by rfl) (hyl : X.env.scope.names.lookup y = some .local := by rfl) (hs : ∀ x, foldedSetIterable iter X.env x = pure x := by intro _; rfl) :
    RS X C (.Assign [.Name y py] (.ListComp elt [⟨tg, iter, ifs, 0⟩] scope pos) spos) (tAsg (tLc wi (cG C X.K gd (own.map (·.2))) (cT C X.K cf) (cE C X.K f) (own.map (·.2))) (gName i)) (sSet i (eL (aLc it gd cf f (own.map (·.2))))) :=
  ⟨ps_setLc hc hN hy hyl hsw hi.p b.ok (fun s H C' cl fp => (b.g' s H C' cl fp).p) (fun s H C' cl fp => (b.t' s H C' cl fp).p) (fun s H C' cl fp => (b.e' s H C' cl fp).p) hs,
    s_set (s_L (s_lc hi.s (b.g' X.s_0 X.H_0 0 [] []).s (b.t' X.s_0 X.H_0 0 [] []).s (b.e' X.s_0 X.H_0 0 [] []).s))⟩
theorem rs_lcM (i : Nat) (hc : X.calm = true) (hN : X.N.Nodup) (hi : RI X C tg iter wi it) (b : RB X C scope own tg ifs elt gd cf f)
    (hsw : swapsWith (.ListComp elt [⟨tg, iter, ifs, 0⟩] scope pos) (some (.Name y py)) spos.line X.env = pure true)
    (hy : X.N[i]? = some y := by rfl) (hyl : X.env.scope.names.lookup y = some .local := by rfl) (hs : ∀ x, foldedSetIterable iter X.env x = pure x := by intro _; rfl) :
    RS X C (.Assign [.Name y py] (.ListComp elt [⟨tg, iter, ifs, 0⟩] scope pos) spos) (tAsg (tLc wi (cG C X.K gd (own.map (·.2))) (cT C X.K cf) (cE C X.K f) (own.map (·.2))) (gName i)) (sSet i (eLM (aLc it gd cf f (own.map (·.2))))) :=
  ⟨ps_setLc hc hN hy hyl hsw hi.p b.ok (fun s H C' cl fp => (b.g' s H C' cl fp).p) (fun s H C' cl fp => (b.t' s H C' cl fp).p) (fun s H C' cl fp => (b.e' s H C' cl fp).p) hs,
    s_set (s_LM (s_lc hi.s (b.g' X.s_0 X.H_0 0 [] []).s (b.t' X.s_0 X.H_0 0 [] []).s (b.e' X.s_0 X.H_0 0 [] []).s))⟩
end
def sAsg (f : E) (g : G) : B := fun δ S => (f δ S).bind fun p => (g p.1 δ).bind fun δ' => some (.nx δ' p.2)
theorem rs_asg {gt : TG} {gd : G} {vs : List Nat} (he : RE X C e te f) (hg : RG X C tg gt gd vs) (hs : swapsWithSole [tg] e pos.line X.env = pure false := by rfl) (hw : swappedStores [tg] e X.env = pure none := by rfl) (hq : (assignEach [tg] X.env).map (·.2) = [assign tg X.env] := by rfl) : RS X C (.Assign [tg] e pos) (tAsg te gt) (sAsg f gd) :=
  ⟨ps_asg he.p hg.p hs hw hq, fun m σ H δ S o Z er sr hf q => by
    unfold sAsg at hf
    obtain ⟨⟨d1, S1⟩, q1, hf⟩ := Option.bind_eq_some_iff.mp hf
    obtain ⟨δ', q2, hf⟩ := Option.bind_eq_some_iff.mp hf
    cases hf
    refine he.s m σ H δ S d1 S1 _ er sr q1 fun v m1 H1 e1 s1 r1 => ?_
    exact hg.s m1 σ H1 δ S1 v d1 δ' _ (er.ev e1) s1 r1 q2 fun σ1 er1 _ => q m1 σ1 H1 e1 er1 s1⟩
def sRet (f : E) : B := fun δ S => (f δ S).bind fun p => some (.rt p.1 p.2)
theorem rs_ret (he : RE X C e te f) : RS X C (.Return (some e) pos) (tRet te) (sRet f) := ⟨ps_ret he.p, fun m σ H δ S o Z er sr hf q => by
  unfold sRet at hf
  obtain ⟨⟨d1, S1⟩, q1, hf⟩ := Option.bind_eq_some_iff.mp hf
  cases hf
  exact he.s m σ H δ S d1 S1 _ er sr q1 fun v m1 H1 e1 s1 r1 => q v m1 H1 e1 s1 r1⟩
def sExp (f : E) : B := fun δ S => (f δ S).bind fun p => some (.nx δ p.2)
theorem rs_expr (he : RE X C e te f) (hs : swapsWith e none pos.line X.env = pure false := by rfl) : RS X C (.Expr e pos) (tDrop te) (sExp f) := ⟨ps_expr he.p hs, fun m σ H δ S o Z er sr hf q => by
  unfold sExp at hf
  obtain ⟨⟨d1, S1⟩, q1, hf⟩ := Option.bind_eq_some_iff.mp hf
  cases hf
  exact he.s m σ H δ S d1 S1 _ er sr q1 fun v m1 H1 e1 s1 r1 => q m1 σ H1 e1 (er.ev e1) s1⟩
def sNext : B := fun δ S => some (.nx δ S)
def sSeq (x y : B) : B := fun δ S => (x δ S).bind fun o => match o with | .nx δ' S' => y δ' S' | o => some o
def sIf (c : T) (x y : B) : B := fun δ S => (c δ S).bind fun p => if p.1 = true then x δ p.2 else y δ p.2
def sNever : B := fun _ _ => none
variable {st : Stmt} {sts : List Stmt} {t1 t2 : TS} {b1 b2 : B} {tt : TT} {cf : T}
theorem rss_nil : RSs X C [] tNext sNext := ⟨pss_nil, fun m σ H δ S o Z er sr hf q => by cases hf; exact q m σ H .refl er sr⟩
theorem rss_cons (h1 : RS X C st t1 b1) (h2 : RSs X C sts t2 b2) : RSs X C (st :: sts) (tSeq t1 t2) (sSeq b1 b2) := ⟨pss_cons h1.p h2.p, fun m σ H δ S o Z er sr hf q => by
  unfold sSeq at hf
  obtain ⟨o1, q1, hf⟩ := Option.bind_eq_some_iff.mp hf
  refine h1.s m σ H δ S o1 _ er sr q1 ?_
  split at hf
  · exact fun m1 σ1 H1 e1 er1 s1 => h2.s m1 σ1 H1 _ _ o Z er1 s1 hf (q.ev e1)
  · cases hf
    cases o with
    | nx δ' S' => rename_i h; exact absurd rfl (h δ' S')
    | rt d S' => exact q
    | bk δ' S' => exact q
    | ct δ' S' => exact q⟩
theorem rss_one (h1 : RS X C st t1 b1) : RSs X C [st] t1 b1 := ⟨pss_one h1.p, h1.s⟩
theorem rs_if {x y : List Stmt} (hc : RT X C c tt cf) (h1 : RSs X C x t1 b1) (h2 : RSs X C y t2 b2) : RS X C (.If c x y pos) (tIfS tt t1 t2) (sIf cf b1 b2) := ⟨ps_if hc.p h1.p h2.p, fun m σ H δ S o Z er sr hf q => by
  unfold sIf at hf
  obtain ⟨⟨k, S1⟩, q1, hf⟩ := Option.bind_eq_some_iff.mp hf
  refine hc.s m σ H δ S k S1 _ er sr q1 fun m1 H1 e1 s1 => ?_
  cases k with
  | true => exact iteT (h1.s m1 σ H1 δ S1 o Z (er.ev e1) s1 hf (q.ev e1))
  | false => exact iteF (h2.s m1 σ H1 δ S1 o Z (er.ev e1) s1 hf (q.ev e1))⟩
theorem rs_never : RS X C st tNever sNever := ⟨ps_never, fun m σ H δ S o Z er sr hf q => by cases hf⟩
def sBrk : B := fun δ S => some (.bk δ S)
theorem rs_break : RS X C (.Break pos) tBreak sBrk := ⟨ps_break, fun m σ H δ S o Z er sr hf q => by cases hf; exact q m σ H .refl er sr⟩

/-! ### loops -/
def forD (gd : G) (b : B) : List D → Sl → List O → Option Out
  | [], δ, S => some (.nx δ S)
  | d :: ds, δ, S => (gd d δ).bind fun δ1 => (b δ1 S).bind fun o => match o with
    | .nx δ2 S2 => forD gd b ds δ2 S2
    | .ct δ2 S2 => forD gd b ds δ2 S2
    | .bk δ2 S2 => some (.nx δ2 S2)
    | .rt d S2 => some (.rt d S2)
def sFor (it : A) (gd : G) (b : B) : B := fun δ S => (it δ S).bind fun p => forD gd b p.1 δ p.2
theorem s_for {K : PySem.W.Frag} {wi : TI} {gt : TG} {it : A} {gd : G} {vs : List Nat} (hi : ISem C K wi it) (hg : GSem C K gt gd vs) (hb : SSem C K t1 b1) : SSem C K (tFor wi gt t1) (sFor it gd b1) := fun m σ H δ S o Z er sr hf q => by
  unfold sFor at hf
  obtain ⟨⟨items, S1⟩, q1, hf⟩ := Option.bind_eq_some_iff.mp hf
  refine hi m σ H δ S items S1 _ er sr q1 fun J m1 H1 e1 s1 Y => ?_
  refine ⟨fun i n σc Hc => n = items.length - i ∧ i ≤ items.length ∧ ∃ mc δc Sc, Ev m1 H1 mc Hc ∧ ER K mc Hc σc δc ∧ SR C K mc Hc Sc ∧ forD gd b1 (items.drop i) δc Sc = some o,
    ⟨items.length, by simp, Nat.zero_le _, m1, δ, S1, .refl, er.ev e1, s1, by simpa using hf⟩, ?_⟩
  rintro i n σc Hc ⟨rfl, hle, mc, δc, Sc, ec, erc, sc, hl⟩
  obtain ⟨yg, ys, yy⟩ := Y mc Hc Sc (.of ec) sc
  by_cases hi' : i < items.length
  · refine .inr ⟨yg i hi', _, fun σ' H' h => ⟨items.length - (i + 1), by omega, h⟩, fun x Hx y => ?_⟩
    obtain ⟨d, hd⟩ := lt_get hi'
    obtain ⟨ex, sx, rx⟩ := yy i d x Hx hd y
    have hdr : items.drop i = d :: items.drop (i + 1) := by
      rw [List.drop_eq_getElem_cons hi']
      rw [List.getElem?_eq_getElem hi'] at hd
      cases hd
      rfl
    rw [hdr] at hl
    unfold forD at hl
    obtain ⟨δ1, g1, hl⟩ := Option.bind_eq_some_iff.mp hl
    obtain ⟨o1, c1, hl⟩ := Option.bind_eq_some_iff.mp hl
    refine hg mc σc Hx δc Sc x d δ1 _ (erc.ev ex) sx rx g1 fun σ1 er1 _ => ?_
    refine hb mc σ1 Hx δ1 Sc o1 _ er1 sx c1 ?_
    cases o1 with
    | nx δ2 S2 => exact fun m2 σ2 H2 e2 er2 s2 => ⟨rfl, hi', m2, δ2, S2, ec.trans (ex.trans e2), er2, s2, hl⟩
    | ct δ2 S2 => exact fun m2 σ2 H2 e2 er2 s2 => ⟨rfl, hi', m2, δ2, S2, ec.trans (ex.trans e2), er2, s2, hl⟩
    | bk δ2 S2 => cases hl; exact fun m2 σ2 H2 e2 er2 s2 => q m2 σ2 H2 (e1.trans (ec.trans (ex.trans e2))) er2 s2
    | rt d S2 => cases hl; exact fun v m2 H2 e2 s2 r2 => q v m2 H2 (e1.trans (ec.trans (ex.trans e2))) s2 r2
  · have hi2 : i = items.length := by omega
    subst hi2
    rw [List.drop_length] at hl
    cases hl
    exact .inl ⟨ys, q mc σc Hc (e1.trans ec) erc sc⟩
theorem rs_for {body : List Stmt} {wi : TI} {gt : TG} {it : A} {gd : G} {vs : List Nat} (hp : PassesOwn (model X.prog X.w) X.A X.env X.xe) (hc : X.calm = true) (hi : RI X C tg iter wi it) (hg : RG X C tg gt gd vs) (hb : RSs X C body t1 b1)
    (hs : ∀ x, foldedSetIterable iter X.env x = pure x := by intro _; rfl) : RS X C (.For tg iter body [] pos) (tFor wi gt t1) (sFor it gd b1) := ⟨ps_for hp hc hi.p hg.p hb.p hs, s_for hi.s hg.s hb.s⟩
def whD (c : T) (b : B) : Nat → Sl → List O → Option Out
  | 0, _, _ => none
  | n + 1, δ, S => (c δ S).bind fun p => if p.1 = true then (b δ p.2).bind fun o => match o with
      | .nx δ2 S2 => whD c b n δ2 S2
      | .ct δ2 S2 => whD c b n δ2 S2
      | .bk δ2 S2 => some (.nx δ2 S2)
      | .rt d S2 => some (.rt d S2)
    else some (.nx δ p.2)
/-- turns enough for every loop here -/
def big : Nat := 1000000000000
def sWhile (c : T) (b : B) : B := fun δ S => whD c b big δ S
theorem s_wh {K : PySem.W.Frag} (hc : TSem C K tt cf) (hb : SSem C K t1 b1) (n0 : Nat) : SSem C K (tWhile tt t1) (fun δ S => whD cf b1 n0 δ S) := fun m σ H δ S o Z er sr hf q => by
  refine ⟨fun n σc Hc => ∃ mc δc Sc, Ev m H mc Hc ∧ ER K mc Hc σc δc ∧ SR C K mc Hc Sc ∧ whD cf b1 n δc Sc = some o, ⟨n0, m, δ, S, .refl, er, sr, hf⟩, ?_⟩
  rintro n σc Hc ⟨mc, δc, Sc, ec, erc, sc, hl⟩
  cases n with
  | zero => cases hl
  | succ n =>
    unfold whD at hl
    obtain ⟨⟨k, S1⟩, c1, hl⟩ := Option.bind_eq_some_iff.mp hl
    refine hc mc σc Hc δc Sc k S1 _ erc sc c1 fun m1 H1 e1 s1 => ?_
    cases k with
    | true =>
      have hl := hl
      rw [if_pos rfl] at hl ⊢
      obtain ⟨o1, c2, hl⟩ := Option.bind_eq_some_iff.mp hl
      refine ⟨fun σ' H' => ∃ mc δc Sc, Ev m H mc H' ∧ ER K mc H' σ' δc ∧ SR C K mc H' Sc ∧ whD cf b1 n δc Sc = some o, fun σ' H' h => ⟨n, Nat.lt_succ_self _, h⟩, ?_⟩
      refine hb m1 σc H1 δc S1 o1 _ (erc.ev e1) s1 c2 ?_
      cases o1 with
      | nx δ2 S2 => exact fun m2 σ2 H2 e2 er2 s2 => ⟨m2, δ2, S2, ec.trans (e1.trans e2), er2, s2, hl⟩
      | ct δ2 S2 => exact fun m2 σ2 H2 e2 er2 s2 => ⟨m2, δ2, S2, ec.trans (e1.trans e2), er2, s2, hl⟩
      | bk δ2 S2 => cases hl; exact fun m2 σ2 H2 e2 er2 s2 => q m2 σ2 H2 (ec.trans (e1.trans e2)) er2 s2
      | rt d S2 => cases hl; exact fun v m2 H2 e2 s2 r2 => q v m2 H2 (ec.trans (e1.trans e2)) s2 r2
    | false =>
      have hl := hl
      rw [if_neg (by exact Bool.false_ne_true)] at hl ⊢
      cases hl
      exact q m1 σc H1 (ec.trans e1) (erc.ev e1) s1
theorem rs_while {body : List Stmt} (hp : PassesOwn (model X.prog X.w) X.A X.env X.xe) (hc : RT X C c tt cf) (hb : RSs X C body t1 b1) : RS X C (.While c body [] pos) (tWhile tt t1) (sWhile cf b1) := ⟨ps_while hp hc.p hb.p, s_wh hc.s hb.s big⟩

/-! ### what changes an object -/
def setO (S : List O) (d : D) (f : O → Option O) : Option (List O) := match d with
  | .ref n => (S[n]?).bind fun o => (f o).bind fun o' => some (S.set n o')
  | _ => none
theorem setO_inv {S S' : List O} {d : D} {f : O → Option O} (h : setO S d f = some S') : ∃ n ob ob', d = .ref n ∧ S[n]? = some ob ∧ f ob = some ob' ∧ S' = S.set n ob' := by
  unfold setO at h
  split at h
  · obtain ⟨ob, q5, h⟩ := Option.bind_eq_some_iff.mp h
    obtain ⟨ob', q6, h⟩ := Option.bind_eq_some_iff.mp h
    cases h
    exact ⟨_, ob, ob', rfl, q5, q6, rfl⟩
  · cases h
/-- xs[i] = e -/
def sSetIx (fe fo fi : E) : B := fun δ S => (fe δ S).bind fun v => (fo δ v.2).bind fun o => (fi δ o.2).bind fun i => match i.1 with
  | .int k => (setO i.2 o.1 fun ob => match ob with | .lst xs => (ixN xs.length k).bind fun j => some (.lst (xs.set j v.1)) | _ => none).bind fun S' => some (.nx δ S')
  | _ => none
theorem rs_setIx {pos' : Pos} (pg : PE X a ta → PE X b tb → PG X (.Subscript a b pos') (L2.gSub ta tb rSetL)) (he : RE X C e te f) (ho : RE X C a ta fa) (hi : RE X C b tb fb) (hs : swapsWithSole [.Subscript a b pos'] e pos.line X.env = pure false := by rfl) (hw : swappedStores [.Subscript a b pos'] e X.env = pure none := by rfl)
    (hq : (assignEach [.Subscript a b pos'] X.env).map (·.2) = [assign (.Subscript a b pos') X.env] := by rfl) :
    RS X C (.Assign [.Subscript a b pos'] e pos) (tAsg te (L2.gSub ta tb rSetL)) (sSetIx f fa fb) := ⟨ps_asg he.p (pg ho.p hi.p) hs hw hq, fun m σ H δ S o Z er sr hf q => by
  unfold sSetIx at hf
  obtain ⟨⟨d1, S1⟩, q1, hf⟩ := Option.bind_eq_some_iff.mp hf
  obtain ⟨⟨d2, S2⟩, q2, hf⟩ := Option.bind_eq_some_iff.mp hf
  obtain ⟨⟨d3, S3⟩, q3, hf⟩ := Option.bind_eq_some_iff.mp hf
  split at hf
  · rename_i k hk
    have hk : d3 = .int k := hk
    subst hk
    obtain ⟨S4, q4, hf⟩ := Option.bind_eq_some_iff.mp hf
    cases hf
    refine he.s m σ H δ S d1 S1 _ er sr q1 fun v m1 H1 e1 s1 r1 => ?_
    refine ho.s m1 σ H1 δ S1 d2 S2 _ (er.ev e1) s1 q2 fun u m2 H2 e2 s2 r2 => ?_
    refine hi.s m2 σ H2 δ S2 _ S3 _ (er.ev (e1.trans e2)) s2 q3 fun w m3 H3 e3 s3 r3 => ?_
    cases r3
    have r2' := r2.ev e3
    have r1' := r1.ev (e2.trans e3)
    obtain ⟨n, ob, ob', ed, q5, q6, eS⟩ := setO_inv q4
    have ed : d2 = .ref n := ed
    subst ed
    subst eS
    dsimp only at q6
    split at q6
    · obtain ⟨j, q7, q6⟩ := Option.bind_eq_some_iff.mp q6
      cases q6
      cases r2' with
      | @ref p _ hn =>
        obtain ⟨xs, h1, h2⟩ := s3.obj _ _ _ hn q5
        obtain ⟨_, hu, ht, hf⟩ := s3.nottup (List.mem_of_getElem? hn)
        have es : Ev m3 H3 m3 (upd H3 p (.lst (xs.set j v))) := .set (List.mem_of_getElem? hn) hu ht hf
        refine ⟨_, _, _, _, rfl, rfl, h1, by rw [h2.length]; exact q7, ?_⟩
        exact q m3 σ _ (e1.trans (e2.trans (e3.trans es))) (er.ev (e1.trans (e2.trans (e3.trans es)))) (s3.put hn ⟨_, upd_same, ((h2.set r1' j).ev es)⟩)
    · cases q6
  · cases hf⟩
/-- xs.append(e) -/
def eAppend (fo fe : E) : E := fun δ S => (fo δ S).bind fun o => (fe δ o.2).bind fun v => (setO v.2 o.1 fun ob => match ob with | .lst xs => if xs.length < 16777216 then some (.lst (xs ++ [v.1])) else none | _ => none).bind fun S' => some (.non, S')
theorem lt_line {n : Nat} (h : n < 16777216) : n < sizeLine := by rw [sizeLine_eq]; exact h
theorem isL_ref {K : PySem.W.Frag} {m : M} {H : Hp} {S : List O} {v : V} {d : D} {n : Nat} {xs : List D} (s : SR C K m H S) (r : Rp K m H v (.ref n)) (h : S[n]? = some (.lst xs)) : ∃ p ys, m.l[n]? = some p ∧ v = .ref p ∧ H p = some (.lst ys) ∧ RpAll K m H ys xs := by
  cases r with
  | ref hn =>
    obtain ⟨ys, h1, h2⟩ := s.obj _ _ _ hn h
    exact ⟨_, ys, hn, rfl, h1, h2⟩
theorem ref_lives {K : PySem.W.Frag} {m m' : M} {H H' : Hp} {S S' : List O} {d : D} (h : S = S') : True := trivial
/-- a list method's reading, for a changing list: the list ahead of the argument is a list there, too -/
def isLst (S : List O) : D → Bool
  | .ref n => match S[n]? with | some (.lst _) => true | _ => false
  | _ => false
theorem tyV_isLst {K : PySem.W.Frag} {m : M} {H : Hp} {S : List O} {v : V} {d : D} (s : SR C K m H S) (r : Rp K m H v d) (h : isLst S d = true) : tyV K "list" v H := by
  cases r with
  | @ref a n hn =>
    have h : (match S[n]? with | some (O.lst _) => true | _ => false) = true := h
    split at h
    · rename_i xs hs
      obtain ⟨vs, h1, h2⟩ := s.obj _ _ _ hn hs
      exact .inl ⟨rfl, _, .inl (.inl h1)⟩
    · cases h
  | _ => cases h
def eMeth1 (k : D → D → List O → Option (D × List O)) (fo fe : E) : E := fun δ S => (fo δ S).bind fun o => if isLst o.2 o.1 = true then (fe δ o.2).bind fun v => k o.1 v.1 v.2 else none
def kAppend (o v : D) (S : List O) : Option (D × List O) := (setO S o fun ob => match ob with | .lst xs => if xs.length < 16777216 then some (.lst (xs ++ [v])) else none | _ => none).bind fun S' => some (.non, S')
theorem re_append {apos : Pos} (pe : PE X a ta → PA X [e] (tCons te tNil) → PE X (.Call (.Attribute a "append" apos) [e] [] pos) (tBM X.K "list" rAppend ta (tCons te tNil))) (ho : RE X C a ta fa) (he : RE X C e te f)
    (hs : starEach [e] X.env = (false, eval e X.env) :: starEach [] X.env := by rfl) : RE X C (.Call (.Attribute a "append" apos) [e] [] pos) (tBM X.K "list" rAppend ta (tCons te tNil)) (eMeth1 kAppend fa f) :=
  ⟨pe ho.p (pa_cons he.p pa_nil hs), fun m σ H δ S d S' Q er sr hf q => by
    unfold eMeth1 at hf
    obtain ⟨⟨d1, S1⟩, q1, hf⟩ := Option.bind_eq_some_iff.mp hf
    split at hf
    · rename_i hl
      obtain ⟨⟨d2, S2⟩, q2, hf⟩ := Option.bind_eq_some_iff.mp hf
      unfold kAppend at hf
      obtain ⟨S3, q4, hf⟩ := Option.bind_eq_some_iff.mp hf
      cases hf
      refine ho.s m σ H δ S d1 S1 _ er sr q1 fun v m1 H1 e1 s1 r1 => ⟨tyV_isLst s1 r1 hl, ?_⟩
      refine he.s m1 σ H1 δ S1 d2 S2 _ (er.ev e1) s1 q2 fun u m2 H2 e2 s2 r2 => ?_
      have r1' := r1.ev e2
      obtain ⟨n, ob, ob', ed, q5, q6, eS⟩ := setO_inv q4
      subst ed
      subst eS
      dsimp only at q6
      split at q6
      · split at q6
        · rename_i hz
          cases q6
          cases r1' with
          | @ref p _ hn =>
            obtain ⟨xs, h1, h2⟩ := s2.obj _ _ _ hn q5
            obtain ⟨_, hu, ht, hf⟩ := s2.nottup (List.mem_of_getElem? hn)
            have es : Ev m2 H2 m2 (upd H2 p (.lst (xs ++ [u]))) := .set (List.mem_of_getElem? hn) hu ht hf
            refine ⟨_, _, _, rfl, rfl, h1, by rw [h2.length]; exact lt_line hz, ?_⟩
            exact q _ m2 _ (e1.trans (e2.trans es)) (s2.put hn ⟨_, upd_same, (h2.append (.cons r2 .nil)).ev es⟩) .non
        · cases q6
      · cases q6
    · cases hf⟩
def kReverse (o : D) (S : List O) : Option (D × List O) := (setO S o fun ob => match ob with | .lst xs => some (.lst xs.reverse) | _ => none).bind fun S' => some (.non, S')
def eMeth0 (k : D → List O → Option (D × List O)) (fo : E) : E := fun δ S => (fo δ S).bind fun o => if isLst o.2 o.1 = true then k o.1 o.2 else none
theorem re_reverse {apos : Pos} (pe : PE X a ta → PE X (.Call (.Attribute a "reverse" apos) [] [] pos) (tBM0 X.K "list" rReverse ta)) (ho : RE X C a ta fa) : RE X C (.Call (.Attribute a "reverse" apos) [] [] pos) (tBM0 X.K "list" rReverse ta) (eMeth0 kReverse fa) :=
  ⟨pe ho.p, fun m σ H δ S d S' Q er sr hf q => by
    unfold eMeth0 at hf
    obtain ⟨⟨d1, S1⟩, q1, hf⟩ := Option.bind_eq_some_iff.mp hf
    split at hf
    · rename_i hl
      unfold kReverse at hf
      obtain ⟨S3, q4, hf⟩ := Option.bind_eq_some_iff.mp hf
      cases hf
      refine ho.s m σ H δ S d1 S1 _ er sr q1 fun v m1 H1 e1 s1 r1 => ⟨tyV_isLst s1 r1 hl, ?_⟩
      obtain ⟨n, ob, ob', ed, q5, q6, eS⟩ := setO_inv q4
      have ed : d1 = .ref n := ed
      subst ed
      subst eS
      split at q6
      · cases q6
        cases r1 with
        | @ref p _ hn =>
          obtain ⟨xs, h1, h2⟩ := s1.obj _ _ _ hn q5
          obtain ⟨_, hu, ht, hf⟩ := s1.nottup (List.mem_of_getElem? hn)
          have es : Ev m1 H1 m1 (upd H1 p (.lst xs.reverse)) := .set (List.mem_of_getElem? hn) hu ht hf
          refine ⟨_, _, rfl, rfl, h1, ?_⟩
          exact q _ m1 _ (e1.trans es) (s1.put hn ⟨_, upd_same, h2.reverse.ev es⟩) .non
      · cases q6
    · cases hf⟩

/-! ### functions -/
mutual
/-- no number of an object from n on -/
def okD (n : Nat) : D → Bool
  | .non | .bl _ | .int _ | .str _ | .scr _ => true
  | .tup xs => okDs n xs
  | .lst xs => okDs n xs
  | .dic ks => okKs n ks
  | .ref j => decide (j < n)
  | .tun xs => okDs n xs
  | .fn _ => true
def okDs (n : Nat) : List D → Bool
  | [] => true
  | d :: ds => okD n d && okDs n ds
def okKs (n : Nat) : List (Key × D) → Bool
  | [] => true
  | (_, d) :: ds => okD n d && okKs n ds
end
theorem okKs_eq (n : Nat) : ∀ ks : List (Key × D), okKs n ks = okDs n (ks.map (·.2))
  | [] => rfl
  | (k, d) :: ks => by simp [okKs, okDs, okKs_eq n ks]
def okFs (n : Nat) (fs : List (Str × D)) : Bool := okDs n (fs.map (·.2))
def okO (n : Nat) : O → Bool
  | .lst xs => okDs n xs
  | .dic ks => okKs n ks
  | .ins fs => okFs n fs
def M.cut (m : M) (n : Nat) : M := ⟨m.l.take n, m.b⟩
mutual
theorem Rp.cut {K : PySem.W.Frag} {m : M} {H : Hp} {n : Nat} : ∀ {v : V} {d : D}, Rp K m H v d → okD n d = true → Rp K (m.cut n) H v d
  | _, _, .non, _ => .non
  | _, _, .bl b, _ => .bl b
  | _, _, .int i, _ => .int i
  | _, _, .str x, _ => .str x
  | _, _, .tup h r, c => .tup h (RpAll.cut' r (by simpa [okD] using c))
  | _, _, .lst h k r, c => .lst h (fun z => k (by
      rcases z with z | z
      · exact .inl (List.mem_of_mem_take z)
      · exact .inr z)) (RpAll.cut' r (by simpa [okD] using c))
  | _, _, .scr h, _ => .scr h
  | _, _, .dic h k l r, c => .dic h (fun z => k (by
      rcases z with z | z
      · exact .inl (List.mem_of_mem_take z)
      · exact .inr z)) l (RpAll.cut' r (by simpa [okD, okKs_eq] using c))
  | _, _, @Rp.ref _ _ _ a j h, c => .ref (by
      have hj : j < n := by simpa [okD] using c
      show (m.l.take n)[j]? = _
      rw [List.getElem?_take_of_lt hj]
      exact h)
  | _, _, .tun h h1 h2 r, c => .tun h h1 h2 (RpAll.cut' r (by simpa [okD] using c))
  | _, _, .fn h, _ => .fn h
theorem RpAll.cut' {K : PySem.W.Frag} {m : M} {H : Hp} {n : Nat} : ∀ {vs : List V} {ds : List D}, RpAll K m H vs ds → okDs n ds = true → RpAll K (m.cut n) H vs ds
  | _, _, .nil, _ => .nil
  | _, _, .cons r rs, c => by
    simp only [okDs, Bool.and_eq_true] at c
    exact .cons (Rp.cut r c.1) (RpAll.cut' rs c.2)
end
/-- what a def hands back, its own objects forgotten; a list or dict of its own becomes a value -/
def gcF (n : Nat) (p : D × List O) : Option (D × List O) :=
  if p.2.length ≤ n then some p else
  if (p.2.take n).all (okO n) = true then (match p.1 with
    | .ref j => if j < n then some (.ref j, p.2.take n) else (match p.2[j]? with
        | some (.lst xs) => if okDs n xs = true then some (.lst xs, p.2.take n) else none
        | some (.dic ks) => if okKs n ks = true then some (.dic ks, p.2.take n) else none
        | _ => none)
    | d => if okD n d = true then some (d, p.2.take n) else none)
  else none
def gcFn (F : Fn) : Fn := fun ds S => (F ds S).bind fun p => gcF S.length p
theorem cut_of {m m' : M} {H H' : Hp} {n : Nat} (e : Ev m H m' H') (hn : m.l.length = n) : m'.cut n = m := by
  obtain ⟨l, q⟩ := e.pre
  obtain ⟨l', b'⟩ := m'
  have hb : b' = m.b := e.hid
  have q : l' = m.l ++ l := q
  subst hb; subst q; subst hn
  show (⟨(m.l ++ l).take m.l.length, m.b⟩ : M) = m
  rw [List.take_left]
theorem Ev.cut {m m' : M} {H H' : Hp} (e : Ev m H m' H') : Ev m H m H' := ⟨⟨[], by simp⟩, rfl, fun _ h => .inl h, e.keep, e.tup, e.frz⟩
theorem SR.cut {K : PySem.W.Frag} {m m' : M} {H : Hp} {S' : List O} {n : Nat} (s : SR C K m' H S') (hm : m'.cut n = m) (ok : (S'.take n).all (okO n) = true) : SR C K m H (S'.take n) := by
  subst hm
  refine ⟨s.nd.sublist (List.take_sublist _ _), by show (m'.l.take n).length = _; simp [s.len], fun j a o h1 h2 => ?_, s.hid, fun a ha z => s.apt a ha (List.mem_of_mem_take z)⟩
  have h1 : (m'.l.take n)[j]? = some a := h1
  have hj : j < n := by
    have := (List.getElem?_eq_some_iff.mp h1).1
    simp at this; omega
  rw [List.getElem?_take_of_lt hj] at h1
  have hmem := List.mem_of_getElem? h2
  rw [List.getElem?_take_of_lt hj] at h2
  have k := List.all_eq_true.mp ok o hmem
  have r := s.obj j a o h1 h2
  cases o with
  | lst ds => obtain ⟨xs, h3, h4⟩ := r; exact ⟨xs, h3, h4.cut' k⟩
  | dic ks => obtain ⟨xs, h3, h4, h5⟩ := r; exact ⟨xs, h3, h4, h5.cut' (by rw [← okKs_eq]; exact k)⟩
  | ins fs => obtain ⟨dx, gs, h3, h4, h5⟩ := r; exact ⟨dx, gs, h3, h4, h5.cut' k⟩
theorem s_gc {K : PySem.W.Frag} {m m' : M} {H H' : Hp} {S S' S2 : List O} {v : V} {d d2 : D} (e : Ev m H m' H') (s0 : SR C K m H S) (s : SR C K m' H' S') (r : Rp K m' H' v d) (h : gcF S.length (d, S') = some (d2, S2)) : ∃ m2, Ev m H m2 H' ∧ SR C K m2 H' S2 ∧ Rp K m2 H' v d2 := by
  have hc := cut_of e s0.len
  unfold gcF at h
  split at h
  · cases h
    exact ⟨m', e, s, r⟩
  refine ⟨m, e.cut, ?_⟩
  split at h
  · rename_i ok
    have s' := s.cut hc ok
    split at h
    · rename_i j hk
      have hk : d = .ref j := hk
      subst hk
      split at h
      · rename_i hj
        cases h
        refine ⟨s', ?_⟩
        rw [← hc]
        exact r.cut (by simp [okD, hj])
      · rename_i hj
        have nin : ∀ a, m'.l[j]? = some a → ¬ m.has a := fun a ha z => by
          rcases z with z | z
          · obtain ⟨i, hi, ei⟩ := List.mem_iff_getElem.mp z
            have h1 : m.l[i]? = some a := by rw [List.getElem?_eq_getElem hi, ei]
            have h2 := e.at h1
            have := nd_ix s.nd h2 ha
            rw [← s0.len] at hj
            omega
          · refine s.apt a ?_ (List.mem_of_getElem? ha)
            rw [e.hid]; exact z
        cases r with
        | @ref a _ hn =>
          split at h
          · rename_i xs hs
            split at h
            · rename_i k
              cases h
              obtain ⟨vs, h1, h2⟩ := s.obj _ _ _ hn hs
              refine ⟨s', .lst h1 (nin a hn) ?_⟩
              rw [← hc]
              exact h2.cut' k
            · cases h
          · rename_i xs hs
            split at h
            · rename_i k
              cases h
              obtain ⟨vs, h1, h2, h3⟩ := s.obj _ _ _ hn hs
              refine ⟨s', .dic h1 (nin a hn) h2 ?_⟩
              rw [← hc]
              exact h3.cut' (by rw [← okKs_eq]; exact k)
            · cases h
          · cases h
    · split at h
      · rename_i k
        cases h
        refine ⟨s', ?_⟩
        rw [← hc]
        exact r.cut k
      · cases h
  · cases h

/-- a def's function from its body's -/
def fnD (n : Nat) (b : B) : Fn := fun ds S => (b (ds.map some ++ List.replicate (n - ds.length) none) S).bind fun o => match o with
  | .rt d S' => some (d, S')
  | .nx _ S' => some (.non, S')
  | _ => none
theorem er_start {K : PySem.W.Frag} {m : M} {H : Hp} {N : List Str} {vs : List V} {ds : List D} (r : RpAll K m H vs ds) : ER K m H (L2.start N vs) (ds.map some ++ List.replicate (N.length - ds.length) none) := by
  refine ⟨by simp [L2.start, r.length], fun i d h => ?_⟩
  unfold L2.start
  rw [r.length]
  by_cases hi : i < ds.length
  · rw [List.getElem?_append_left (by simpa using hi)] at h
    rw [List.getElem?_append_left (by simpa [r.length] using hi)]
    rw [List.getElem?_map] at h ⊢
    cases q : ds[i]? with
    | none => rw [q] at h; cases h
    | some d' =>
      rw [q] at h
      cases h
      obtain ⟨v, h1, h2⟩ := r.get q
      exact ⟨v, by rw [h1]; rfl, h2⟩
  · rw [List.getElem?_append_right (by simpa using hi)] at h
    have := List.mem_of_getElem? h
    have := (List.mem_replicate.mp this).2
    cases this
end
section
variable {P : Program} {w : World} {K : PySem.W.Frag} {mg : Str → Option Value} {base : Heap}
theorem fn_ok {C : Addr} {x qual : Str} {st : Stmt} {f : Addr} {fd : FuncData} {N ps : List Str} {k n : Nat} {b : B} (F : L2.Fun K x qual st f fd) (S : FnScope N ps (defScope st)) (hn : n = ps.length)
    (h : ∀ (cdv : Value) (A : Around) (outer : List Env) (s : Shared) (H : Hp) (E : XK), Room k (A.deeper (envOfC qual (defScope st) s.heap.objs.size f cdv)) → ∃ t, RSs (cxOf CX0 P w K mg base N qual (defScope st) f cdv A outer s H E).nox C (defBody st) t b) :
    FnOk P w K mg base CX0 (k + 1) f fd ps (spF C K n (fnD N.length b)) := by
  refine F.ok S (fun vs H Q E q => hn ▸ q.1) fun cdv A outer s H vs Q E hr q => ?_
  obtain ⟨t, ht⟩ := h cdv A outer s H E hr
  obtain ⟨hl, m, S0, ds, d, S', r, sr, hf, q⟩ := q
  refine ⟨t, ht.p, ?_⟩
  unfold fnD at hf
  obtain ⟨o, q1, hf⟩ := Option.bind_eq_some_iff.mp hf
  refine ht.s m _ H _ S0 o _ (er_start r) sr q1 ?_
  split at hf
  · cases hf; exact fun v m' H' e' s' r' => q v m' H' e' s' r'
  · cases hf; exact fun m' σ' H' e' er' s' => q .non m' H' e' s' .non
  · cases hf
theorem _root_.Cb.FnOk.gc {C f : Addr} {fd : FuncData} {ps : List Str} {k n : Nat} {F : Fn} (h : FnOk P w K mg base CX0 k f fd ps (spF C K n F)) : FnOk P w K mg base CX0 k f fd ps (spF C K n (gcFn F)) := by
  refine h.imp fun vs H Q E q => ?_
  obtain ⟨hl, m, S, ds, d, S', r, sr, hf, q⟩ := q
  unfold gcFn at hf
  obtain ⟨⟨d1, S1⟩, q1, hf⟩ := Option.bind_eq_some_iff.mp hf
  refine ⟨hl, m, S, ds, d1, S1, r, sr, q1, fun v m' H' e' s' r' => ?_⟩
  obtain ⟨m2, e2, s2, r2⟩ := s_gc e' sr s' r' hf
  exact q v m2 H' e2 s2 r2
theorem fn_none {C f : Addr} {fd : FuncData} {ps : List Str} {n : Nat} {k : Nat} : FnOk P w K mg base CX0 k f fd ps (spF C K n fun _ _ => none) := by
  have no : ∀ vs H Q E, ¬ spF C K n (fun _ _ => none) vs H Q E := fun vs H Q E ⟨_, _, _, _, _, _, _, _, h, _⟩ => nomatch h
  exact ⟨fun vs H Q E h => absurd h (no vs H Q E), fun A outer s H args us vs Q E _ _ _ _ h => absurd h (no vs H Q E)⟩
end
end Cb
namespace Cb
open PySem PySem.Spec PyProof.Rows L2

section
variable {X : Cx} {C : Addr} {pos : Pos} {a b c e tg iter : Expr} {es : List Expr} {ta tb tc te : TE} {tA : TA} {fa fb fc f : E} {g : A}
/-! ### in, not in: flat things -/
def flatD : D → Bool
  | .non | .bl _ | .int _ | .str _ => true
  | _ => false
def eqF : D → D → Bool
  | .non, .non => true
  | .bl a, .bl b => a == b
  | .bl a, .int b => (if a then 1 else 0) == b
  | .int a, .bl b => a == (if b then 1 else 0)
  | .int a, .int b => a == b
  | .str a, .str b => a == b
  | _, _ => false
def seqA (S : List O) : D → Option (List D)
  | .tup xs => some xs
  | d => seqL S d
theorem rp_seqA {K : PySem.W.Frag} {m : M} {H : Hp} {S : List O} {v : V} {d : D} {ds : List D} (s : SR C K m H S) (r : Rp K m H v d) (h : seqA S d = some ds) : ∃ a xs, v = .ref a ∧ (SqL K H a xs ∨ SqT K H a xs) ∧ RpAll K m H xs ds := by
  unfold seqA at h
  split at h
  · cases h
    cases r with
    | tup h1 r => exact ⟨_, _, rfl, .inr h1, r⟩
  · obtain ⟨a, xs, e, h1, h2⟩ := rp_seqL s r h
    exact ⟨a, xs, e, .inl h1, h2⟩
def dIn (neg : Bool) : Op2 := fun x y S => (seqA S y).bind fun ys => if flatD x = true ∧ ys.all flatD = true then some (.bl (if neg then !(ys.any fun z => eqF z x) else ys.any fun z => eqF z x)) else none
theorem Rp.flat {K : PySem.W.Frag} {m : M} {H : Hp} {v : V} {d : D} (r : Rp K m H v d) (h : flatD d = true) : flatV v = true := by
  cases r <;> first | rfl | cases h
theorem Rp.eqF {K : PySem.W.Frag} {m : M} {H : Hp} {v w : V} {d e : D} (r : Rp K m H v d) (q : Rp K m H w e) (h : flatD d = true) (h' : flatD e = true) : eqV v w = Cb.eqF d e := by
  cases r <;> cases q <;> first | rfl | (simp [flatD] at h; done) | (simp [flatD] at h'; done)
theorem RpAll.flat {K : PySem.W.Frag} {m : M} {H : Hp} : ∀ {vs : List V} {ds : List D}, RpAll K m H vs ds → ds.all flatD = true → vs.all flatV = true
  | _, _, .nil, _ => rfl
  | _, _, .cons r rs, h => by
    rw [List.all_cons, Bool.and_eq_true] at h ⊢
    exact ⟨r.flat h.1, RpAll.flat rs h.2⟩
theorem RpAll.anyF {K : PySem.W.Frag} {m : M} {H : Hp} {v : V} {d : D} (r : Rp K m H v d) (h : flatD d = true) : ∀ {vs : List V} {ds : List D}, RpAll K m H vs ds → ds.all flatD = true → inV v vs = ds.any fun z => Cb.eqF z d
  | _, _, .nil, _ => rfl
  | _, _, .cons q rs, h2 => by
    rw [List.all_cons, Bool.and_eq_true] at h2
    have ih := RpAll.anyF r h rs h2.2
    unfold inV at ih ⊢
    rw [List.any_cons, List.any_cons, ih, q.eqF r h2.1 h]
theorem s_in {K : PySem.W.Frag} {neg : Bool} : R2Sem C K (rIn K neg) (dIn neg) := fun m H x y d1 d2 S d Q r1 r2 sr hf q => by
  unfold dIn at hf
  obtain ⟨ys, h1, hf⟩ := Option.bind_eq_some_iff.mp hf
  split at hf
  · rename_i hc
    cases hf
    obtain ⟨a, xs, e, h2, h3⟩ := rp_seqA sr r2 h1
    subst e
    refine ⟨a, xs, rfl, h2, r1.flat hc.1, h3.flat hc.2, ?_⟩
    rw [RpAll.anyF r1 hc.1 h3 hc.2]
    exact q _ m H .refl sr (.bl _)
  · cases hf
theorem rc_in (ha : RE X C a ta fa) (hb : RE X C b tb fb) (hm : behindInMarks .In b = false := by rfl) : RC X C (.Compare a [.In] [b] pos) (tOp (rIn X.K false) ta tb) (eOp (dIn false) fa fb) := rc_op op_in_seq s_in ha hb hm
theorem rc_notin (ha : RE X C a ta fa) (hb : RE X C b tb fb) (hm : behindInMarks .NotIn b = false := by rfl) : RC X C (.Compare a [.NotIn] [b] pos) (tOp (rIn X.K true) ta tb) (eOp (dIn true) fa fb) := rc_op op_notIn_seq s_in ha hb hm
/-- one sign not in a text -/
def dNotSign : Op2 := fun x y _ => match x, y with
  | .str c, .str z => if c.cps.size = 1 then some (.bl (!decide (c.cps.getD 0 0 ∈ z.cps.toList))) else none
  | _, _ => none
theorem one_sign {c : Str} (h : c.cps.size = 1) : c = ⟨#[c.cps.getD 0 0]⟩ := by
  obtain ⟨cps⟩ := c
  obtain ⟨l⟩ := cps
  match l, h with
  | [x], _ => rfl
theorem s_notSign {K : PySem.W.Frag} : R2Sem C K (fun x y H Q => ∃ (c : Nat) (z : Str), x = .str ⟨#[c]⟩ ∧ y = .str z ∧ Q (.bl (!decide (c ∈ z.cps.toList))) H) dNotSign := fun m H x y d1 d2 S d Q r1 r2 sr hf q => by
  unfold dNotSign at hf
  split at hf
  · rename_i c z
    split at hf
    · rename_i h1
      cases hf; cases r1; cases r2
      exact ⟨c.cps.getD 0 0, z, by rw [← one_sign h1], rfl, q _ m H .refl sr (.bl _)⟩
    · cases hf
  · cases hf
theorem rc_notsign (ha : RE X C a ta fa) (hb : RE X C b tb fb) (hm : behindInMarks .NotIn b = false := by rfl) : RC X C (.Compare a [.NotIn] [b] pos) (tOp (fun x y H Q => ∃ (c : Nat) (z : Str), x = .str ⟨#[c]⟩ ∧ y = .str z ∧ Q (.bl (!decide (c ∈ z.cps.toList))) H) ta tb) (eOp dNotSign fa fb) := rc_op op_notIn_sign s_notSign ha hb hm

/-! ### methods of texts -/
def eS1 (k : Op2) (fo fe : E) : E := fun δ S => (fo δ S).bind fun o => match o.1 with
  | .str _ => (fe δ o.2).bind fun v => (k o.1 v.1 v.2).bind fun d => some (d, v.2)
  | _ => none
def MSem (C : Addr) (K : PySem.W.Frag) (r : V → List V → Hp → VK → Prop) (k : Op2) : Prop := ∀ m H x y d1 d2 S d Q, Rp K m H x d1 → Rp K m H y d2 → SR C K m H S → k d1 d2 S = some d →
  (∀ v m' H', Ev m H m' H' → SR C K m' H' S → Rp K m' H' v d → Q v H') → r x [y] H Q
theorem s_S1 {K : PySem.W.Frag} {r : V → List V → Hp → VK → Prop} {k : Op2} (hk : MSem C K r k) (ho : ESem C K ta fa) (he : ESem C K te f) : ESem C K (tM1 r ta te) (eS1 k fa f) := fun m σ H δ S d S' Q er sr hf q => by
  unfold eS1 at hf
  obtain ⟨⟨d1, S1⟩, q1, hf⟩ := Option.bind_eq_some_iff.mp hf
  split at hf
  · rename_i z hz
    have hz : d1 = .str z := hz
    subst hz
    obtain ⟨⟨d2, S2⟩, q2, hf⟩ := Option.bind_eq_some_iff.mp hf
    obtain ⟨d3, q3, hf⟩ := Option.bind_eq_some_iff.mp hf
    cases hf
    refine ho m σ H δ S _ S1 _ er sr q1 fun v m1 H1 e1 s1 r1 => ?_
    cases r1
    refine ⟨⟨z, rfl⟩, he m1 σ H1 δ S1 d2 S2 _ (er.ev e1) s1 q2 fun u m2 H2 e2 s2 r2 => ?_⟩
    exact hk m2 H2 _ u _ d2 S2 _ Q (.str z) r2 s2 q3 fun v m3 H3 e3 s3 r3 => q v m3 H3 (e1.trans (e2.trans e3)) s3 r3
  · cases hf
def strsD : List D → Option (List Str)
  | [] => some []
  | .str x :: ds => (strsD ds).bind fun xs => some (x :: xs)
  | _ => none
theorem strsD_eq : ∀ {ds : List D} {xs : List Str}, strsD ds = some xs → ds = xs.map D.str
  | [], xs, h => by cases h; rfl
  | d :: ds, xs, h => by
    cases d with
    | str x =>
      obtain ⟨ys, h1, h2⟩ := Option.bind_eq_some_iff.mp (show (strsD ds).bind (fun xs => some (x :: xs)) = some xs from h)
      cases h2
      rw [strsD_eq h1]
      rfl
    | _ => cases h
theorem RpAll.strs' {K : PySem.W.Frag} {m : M} {H : Hp} : ∀ {vs : List V} {xs : List Str}, RpAll K m H vs (xs.map D.str) → vs = xs.map V.str
  | [], [], _ => rfl
  | [], _ :: _, h => nomatch h
  | _ :: _, [], h => nomatch h
  | v :: vs, x :: xs, .cons r rs => by
    cases r
    rw [RpAll.strs' rs]
    rfl
def dJoin : Op2 := fun x y S => match x with
  | .str a => (seqA S y).bind fun ds => (strsD ds).bind fun xs => if (xs.map (·.length)).sum + xs.length * a.length ≤ 16777216 then some (.str (Txt.join a xs)) else none
  | _ => none
def rJoin (K : PySem.W.Frag) : V → List V → Hp → VK → Prop := fun x xs H Q => ∃ a p, ∃ ys : List Str, x = .str a ∧ xs = [.ref p] ∧ (SqL K H p (ys.map V.str) ∨ SqT K H p (ys.map V.str)) ∧
  (ys.map (·.length)).sum + ys.length * a.length ≤ 16777216 ∧ Q (.str (Txt.join a ys)) H
theorem s_join {K : PySem.W.Frag} : MSem C K (rJoin K) dJoin := fun m H x y d1 d2 S d Q r1 r2 sr hf q => by
  unfold dJoin at hf
  split at hf
  · obtain ⟨ds, h1, hf⟩ := Option.bind_eq_some_iff.mp hf
    obtain ⟨xs, h2, hf⟩ := Option.bind_eq_some_iff.mp hf
    split at hf
    · rename_i hl
      cases hf; cases r1
      obtain ⟨p, vs, e, h3, h4⟩ := rp_seqA sr r2 h1
      subst e
      have := strsD_eq h2
      subst this
      have := h4.strs'
      subst this
      exact ⟨_, p, xs, rfl, rfl, h3, hl, q _ m H .refl sr (.str _)⟩
    · cases hf
  · cases hf
theorem re_join {apos : Pos} (ho : RE X C a ta fa) (he : RE X C e te f) (hs : starEach [e] X.env = [(false, eval e X.env)] := by rfl) (hbase : attributeBase a "join" X.env (eval a X.env) = eval a X.env := by rfl) (hline : (apos.endLine == pos.line) = true := by rfl) :
    RE X C (.Call (.Attribute a "join" apos) [e] [] pos) (tM1 (rJoin X.K) ta te) (eS1 dJoin fa f) := ⟨pe_join ho.p he.p hs hbase hline, s_S1 s_join ho.s he.s⟩
def dStarts : Op2 := fun x y _ => match x, y with | .str a, .str b => some (.bl (Txt.startswith a b)) | _, _ => none
def dEnds : Op2 := fun x y _ => match x, y with | .str a, .str b => some (.bl (Txt.endswith a b)) | _, _ => none
theorem s_starts {K : PySem.W.Frag} : MSem C K (fun x xs H Q => ∃ a b, x = .str a ∧ xs = [.str b] ∧ Q (.bl (Txt.startswith a b)) H) dStarts := fun m H x y d1 d2 S d Q r1 r2 sr hf q => by
  unfold dStarts at hf
  split at hf
  · cases hf; cases r1; cases r2
    exact ⟨_, _, rfl, rfl, q _ m H .refl sr (.bl _)⟩
  · cases hf
theorem s_ends {K : PySem.W.Frag} : MSem C K (fun x xs H Q => ∃ a b, x = .str a ∧ xs = [.str b] ∧ Q (.bl (Txt.endswith a b)) H) dEnds := fun m H x y d1 d2 S d Q r1 r2 sr hf q => by
  unfold dEnds at hf
  split at hf
  · cases hf; cases r1; cases r2
    exact ⟨_, _, rfl, rfl, q _ m H .refl sr (.bl _)⟩
  · cases hf
theorem re_starts {apos : Pos} (ho : RE X C a ta fa) (he : RE X C e te f) (hs : starEach [e] X.env = [(false, eval e X.env)] := by rfl) (hbase : attributeBase a "startswith" X.env (eval a X.env) = eval a X.env := by rfl) (hline : (apos.endLine == pos.line) = true := by rfl) :
    RE X C (.Call (.Attribute a "startswith" apos) [e] [] pos) (tM1 (fun x xs H Q => ∃ a b, x = .str a ∧ xs = [.str b] ∧ Q (.bl (Txt.startswith a b)) H) ta te) (eS1 dStarts fa f) := ⟨pe_m1 PySem.F.slot_str_startswith PySem.F.type_str_startswith mt_startswith ho.p he.p hs hbase hline, s_S1 s_starts ho.s he.s⟩
theorem re_ends {apos : Pos} (ho : RE X C a ta fa) (he : RE X C e te f) (hs : starEach [e] X.env = [(false, eval e X.env)] := by rfl) (hbase : attributeBase a "endswith" X.env (eval a X.env) = eval a X.env := by rfl) (hline : (apos.endLine == pos.line) = true := by rfl) :
    RE X C (.Call (.Attribute a "endswith" apos) [e] [] pos) (tM1 (fun x xs H Q => ∃ a b, x = .str a ∧ xs = [.str b] ∧ Q (.bl (Txt.endswith a b)) H) ta te) (eS1 dEnds fa f) := ⟨pe_m1 PySem.F.slot_str_endswith PySem.F.type_str_endswith mt_endswith ho.p he.p hs hbase hline, s_S1 s_ends ho.s he.s⟩
end
theorem sqF_of {K : PySem.W.Frag} {H : Hp} {a : Addr} {xs : List V} (ho : Only H) (h : SqL K H a xs) : SqF K H a xs := by
  rcases h with (h | ⟨o, h⟩) | h
  · rcases ho a with z | ⟨o, ys, z⟩
    · rw [h] at z; cases z
    · rw [h] at z; cases z
  · exact .inl ⟨o, h⟩
  · exact .inr h
end Cb
namespace Cb
open PySem PySem.Spec PyProof.Rows L2

/-! ### enumerate(tuple) -/
def IteT (K : PySem.W.Frag) (a : Addr) : It :=
  ⟨fun i H => ∃ (xs : List V) (x : V), SqT K H a xs ∧ xs[i]? = some x, fun i H v H' => ∃ T x, v = .ref T ∧ H T = none ∧ H' = upd H T (.tup [.int (i : Nat), x]) ∧ ∀ xs, SqT K H a xs → xs[i]? = some x, fun i H => ∃ xs : List V, SqT K H a xs ∧ xs.length = i⟩
theorem enum_apart {h : Heap} {e it a : Addr} {c : Int} {old : Value} {its : Array Value} (he : IsEnum h e it c old) (p : h.IsTuple a its) : e ≠ a := by
  intro z
  subst z
  obtain ⟨o, ho, hc, _⟩ := p
  have he' : h.get? e = some _ := he
  rw [ho] at he'
  have := Option.some.inj he'
  rw [this] at hc
  have q : Value.type "enumerate" = Value.type "tuple" := hc
  simp at q
theorem tit_apart {h : Heap} {it a : Addr} {i : Nat} {its : Array Value} (hi : h.IsTupleIter it a i) (p : h.IsTuple a its) : a ≠ it := by
  intro z
  subst z
  obtain ⟨o, ho, hc, _⟩ := p
  obtain ⟨o', ho', hc', _⟩ := hi
  rw [ho] at ho'
  cases ho'
  rw [hc] at hc'
  simp at hc'
theorem turn_enumT {P : Program} {w : World} {K : PySem.W.Frag} {elts : List Expr} {kk : Nat} {tpos : Pos} (a e it : Addr) :
    Turn P w K (.Tuple elts kk tpos) (IteT K a) [e, it] e (fun i h => (∃ old, IsEnum h e it ((i : Nat) : Int) old) ∧ h.IsTupleIter it a i ∧ e ≠ it) where
  mem := by simp
  obj := fun i h st b hb => by
    obtain ⟨⟨old, he⟩, ⟨o, ho, hc, hd⟩, _⟩ := st
    have e' : b = e ∨ b = it := by simpa using hb
    rcases e' with z | z
    · rw [z]; exact ⟨_, he, fun v q => nomatch q⟩
    · rw [z]; exact ⟨o, ho, fun v q => by rw [hd] at q; cases q⟩
  keep := fun i h h' st k => let ⟨⟨old, he⟩, hi, hne⟩ := st; ⟨⟨old, k e (by simp) _ he⟩, hi.at fun o q => k it (by simp) o q, hne⟩
  item := by
    intro X hP hw hK hc i pins s σ H E I hf st hg
    subst hP hw hK
    obtain ⟨⟨old, he⟩, hit, hne⟩ := st
    obtain ⟨xs, x, hq, hx⟩ := hg
    obtain ⟨its, rv, p, hz⟩ := I.tuple hq
    have p' : s.heap.IsTuple a its.toArray := p
    obtain ⟨u, hu, ru⟩ := rv.get hx
    have hel : e < s.heap.objs.size := Heap.lt_size he
    have hil : it < s.heap.objs.size := by obtain ⟨_, q, _⟩ := hit; exact Heap.lt_size q
    have hiu : i < its.length := (List.getElem?_eq_some_iff.mp hu).1
    have hea := enum_apart he p'
    have hai := tit_apart hit p'
    refine wpAny_pyNext_enum_itemD (Draws.tuple (A := X.A.in1) (I.ok.hd hc) it a hai its.toArray) he ⟨hit, p'⟩ (by simpa using hiu) hne (by simp only [List.mem_cons, List.not_mem_nil, or_false]; exact fun z => z.elim hne hea) fun y h' tk hy ho hit' hT hsz hk => ?_
    have hyu : y = u := by
      have hy : its.toArray[i]? = some y := hy
      rw [List.getElem?_toArray, hu] at hy
      exact (Option.some.inj hy).symm
    subst hyu
    refine ⟨_, rfl, wpAny_letOwnedTupleGo_enum (s := { s with heap := h', toks := tk + 1 }) ho fun h'' he' sb => ?_⟩
    have hT2 : h''.get? s.heap.objs.size = some { cls := .type "tuple", data := .seq #[.int i tk, y] } := (sb.2 _ (Nat.ne_of_gt hel)).trans hT
    have new : ObjOk X.prog X.w (upd H s.heap.objs.size (.tup [.int (i : Nat), x])) h'' s.heap.objs.size (.tup [.int (i : Nat), x]) :=
      ⟨by show 2 ≤ sizeLine; decide, [.int i tk, y], .cons ⟨_, rfl⟩ (.cons ru .nil), ⟨_, hT2, rfl, _, rfl⟩⟩
    have I1 : Inv X pins σ (upd H s.heap.objs.size (.tup [.int (i : Nat), x])) { s with heap := h'', toks := tk + 1 } :=
      I.turnedNew (ch := [e, it]) (fun b ob hb q => (sb.2 b (fun z => hb (by simp [z]))).trans (hk b ob (fun z => hb (by simp [z])) (fun z => hb (by simp [z])) q)) hf (Nat.le_refl _) new
    refine ⟨.ref s.heap.objs.size, _, I1, rfl, ⟨_, x, rfl, I.hok.fresh (Nat.le_refl _), rfl, fun ys hy => by rw [I.tuple_inj hy hq]; exact hx⟩, ⟨⟨y, ?_⟩, hit'.1.at fun o q => (sb.2 it (Ne.symm hne)).trans q, hne⟩, fun b hb => ?_⟩
    · have e1 : ((i + 1 : Nat) : Int) = (i : Int) + 1 := by omega
      rw [e1]; exact he'
    · have hb' : b < s.heap.objs.size := by
        have e' : b = e ∨ b = it := by simpa using hb
        rcases e' with z | z
        · rw [z]; exact hel
        · rw [z]; exact hil
      rw [upd_ne (Nat.ne_of_lt hb')]
      exact (hf b hb).1
  done := by
    intro X hP hw hK hc i pins s σ H E I hf st hg
    subst hP hw hK
    obtain ⟨⟨old, he⟩, hit, hne⟩ := st
    obtain ⟨xs, hq, hx⟩ := hg
    obtain ⟨its, rv, p, hz⟩ := I.tuple hq
    have p' : s.heap.IsTuple a its.toArray := p
    obtain ⟨f0, f1, f2, f3, f4, f5⟩ := hf it (by simp)
    have hl := rv.length
    have hai := tit_apart hit p'
    have hn : i = its.toArray.size := by simp; omega
    subst hn
    exact wpAny_pyNext_enum_endD (Draws.tuple (A := X.A.in1) (I.ok.hd hc) it a hai its.toArray) he ⟨hit, p'⟩ fun h' eb => ⟨rfl, I.turned (t' := s.toks) (fun b o hb q => eb b o hb q) f0 f1 f3 f4 f5⟩
  self := fun A i s Q E st h => let ⟨⟨_, he⟩, _⟩ := st; wpAny_pyIter_enum he h
theorem meets_enumerate_newB1 {v : Value} {o : Obj} {H : Heap → Prop} (B : Begins v o H) :
    Meets (Builtin.«enumerate.__new__» ⟨[.type "enumerate", v], []⟩) (fun _ R s => H s.heap ∧
      R (.ok (.ret (.ref (s.heap.push o).objs.size))) { s with heap := (s.heap.push o).push { cls := .type "enumerate", data := .fields #[.none, .bool false, .ref s.heap.objs.size, rawInt 0, .none, .none] } }) :=
  .of_wp fun prog w A R s h => by
    obtain ⟨hp, g, d, tk, os⟩ := s; obtain ⟨h1, h⟩ := h
    have hsub := sub_enumerate
    have q1 : ∀ {A' : Around} {E : Value → Shared → Prop} {Q : Value → Shared → Prop}, Q (.ref hp.objs.size) ⟨hp.push o, g, d, tk, os⟩ → wpAny (model prog w) A' (pyIter v) Q E ⟨hp, g, d, tk, os⟩ :=
      fun q => B.iter prog w _ _ ⟨hp, g, d, tk, os⟩ _ h1 q
    wp_walk using q1
    refine wpAny_stack_any fun st => wpAny_pure ?_
    split
    · rename_i c _ _ _ _ _
      cases (c == Value.type "enumerate")
      · wp_walk using q1
        exact ⟨_, rfl, h⟩
      · wp_walk using q1
        exact ⟨_, rfl, h⟩
    · wp_walk using q1
      exact ⟨_, rfl, h⟩
theorem enum_begins1 {prog : Program} {w : World} {A : Around} {E : Value → Shared → Prop} {s : Shared} {v : Value} {o : Obj} {H : Heap → Prop} {Q : Value → Shared → Prop} (B : Begins v o H) (h1 : H s.heap)
    (h : ∀ h', IsEnum h' (s.heap.objs.size + 1) s.heap.objs.size 0 .none → h'.get? s.heap.objs.size = some o → h'.objs.size = s.heap.objs.size + 2 →
      (∀ b o, s.heap.get? b = some o → h'.get? b = some o) → Q (.ref (s.heap.objs.size + 1)) { s with heap := h' }) :
    wpAny (model prog w) A (call (.type "enumerate") [v]) Q E s := by
  refine callType_new F.called_enumerate (by decide) (F.typeCall_enumerate_1 _) (F.newCall_enumerate_1 _) (fun obj => F.args_object_init_2 obj _) F.entry_enumerate_new
    (meets_enumerate_newB1 B) ⟨h1, ?_⟩
  have hz : (s.heap.push o).objs.size = s.heap.objs.size + 1 := Heap.size_push ..
  show _ ∧ _
  rw [hz]
  have he : IsEnum ((s.heap.push o).push { cls := .type "enumerate", data := .fields #[.none, .bool false, .ref s.heap.objs.size, rawInt 0, .none, .none] }) (s.heap.objs.size + 1) s.heap.objs.size 0 .none := by
    have := Heap.get?_push_size (s.heap.push o) (o := { cls := .type "enumerate", data := .fields #[.none, .bool false, .ref s.heap.objs.size, rawInt 0, .none, .none] }) rfl
    rw [hz] at this; exact this
  refine ⟨⟨_, he, rfl⟩, h _ he (Heap.get?_push_of_some _ (Heap.get?_push_size _ B.free)) (by rw [Heap.size_push, hz]) fun b o x => Heap.get?_push_of_some _ (Heap.get?_push_of_some _ x)⟩
def iEnumT (K : PySem.W.Frag) (ta : TA) : TI := fun σ H R => ta σ H fun vs H1 => ∃ a xs, vs = [.ref a] ∧ SqT K H1 a xs ∧ R (IteT K a) H1
theorem pi_enumT {X : Cx} {e : Expr} {ta : TA} {p pos tpos : Pos} {elts : List Expr} {kk : Nat} (hg : Gl X "enumerate") (hm : X.mg "enumerate" = none) (ha : PA X [e] ta) (hs : starEach [e] X.env = [(false, eval e X.env)] := by rfl) :
    PI X (.Tuple elts kk tpos) (.Call (.Name "enumerate" p) [e] [] pos) (iEnumT X.K ta) := by
  refine ⟨fun pins s σ H R I h => ?_⟩
  refine Call_ (ld_blt I hg hm boot_enumerate (PyProof.Rows.callWith_type1 (thn (ha.run pos pins s σ H _ I h) fun us s1 ⟨vs, H1, I1, r1, q1⟩ => ?_) hs rfl))
  obtain ⟨a, xs, ex, hq, q⟩ := q1
  subst ex
  cases r1 with
  | cons r rr =>
    cases rr
    cases r
    obtain ⟨its, rv, p', hz⟩ := I1.tuple hq
    refine enum_begins1 (begins_tuple a its.toArray) p' fun h' he hit hsz hk => wpAny_pyIter_enum he ?_
    have I2 : Inv X pins σ H1 { s1 with heap := h' } := I1.kept (t' := s1.toks) hk
    refine ⟨s1.heap.objs.size + 1, [s1.heap.objs.size + 1, s1.heap.objs.size], _, _, H1, rfl, I2, turn_enumT a (s1.heap.objs.size + 1) s1.heap.objs.size, ⟨⟨.none, he⟩, ⟨_, hit, rfl, rfl⟩, Nat.succ_ne_self _⟩, fun b hb => ?_, q⟩
    have e' : b = s1.heap.objs.size + 1 ∨ b = s1.heap.objs.size := by simpa using hb
    have hle : s1.heap.objs.size ≤ b := by
      rcases e' with z | z
      · rw [z]; exact Nat.le_add_right _ _
      · rw [z]; exact Nat.le_refl _
    exact I1.fpOk hle (I1.hok.fresh hle)
section
variable {X : Cx} {C : Addr} {pos : Pos} {a b c e tg iter : Expr} {es : List Expr} {ta tb tc te : TE} {tA : TA} {fa fb fc f : E} {g : A}
def enumD : Nat → List D → List D
  | _, [] => []
  | i, d :: ds => .tup [.int (i : Nat), d] :: enumD (i + 1) ds
theorem enumD_len : ∀ (k : Nat) (ds : List D), (enumD k ds).length = ds.length
  | _, [] => rfl
  | k, d :: ds => by simp [enumD, enumD_len (k + 1) ds]
theorem enumD_get : ∀ (k : Nat) (ds : List D) (i : Nat), (enumD k ds)[i]? = (ds[i]?).map fun d => D.tup [.int ((k + i : Nat) : Int), d]
  | _, [], _ => by simp [enumD]
  | k, d :: ds, 0 => by simp [enumD]
  | k, d :: ds, i + 1 => by
    simp only [enumD, List.getElem?_cons_succ, enumD_get (k + 1) ds i]
    have : k + 1 + i = k + (i + 1) := by omega
    rw [this]
def iEnumD (f : E) : A := fun δ S => (f δ S).bind fun p => match p.1 with | .tup ds => some (enumD 0 ds, p.2) | _ => none
theorem ri_enum {elts : List Expr} {kk : Nat} {tpos p : Pos} (hg : Gl X "enumerate") (hm : X.mg "enumerate" = none) (he : RE X C e te f) (hs : starEach [e] X.env = [(false, eval e X.env)] := by rfl) : RI X C (.Tuple elts kk tpos) (.Call (.Name "enumerate" p) [e] [] pos) (iEnumT X.K (tCons te tNil)) (iEnumD f) :=
  ⟨pi_enumT hg hm (pa_cons he.p pa_nil hs) hs, fun m σ H δ S items S' R er sr hf q => by
    unfold iEnumD at hf
    obtain ⟨⟨d1, S1⟩, q1, hf⟩ := Option.bind_eq_some_iff.mp hf
    split at hf
    · rename_i ds hk
      have hk : d1 = .tup ds := hk
      subst hk
      cases hf
      refine he.s m σ H δ S _ S1 _ er sr q1 fun v m1 H1 e1 s1 r1 => ?_
      cases r1 with
      | @tup a xs _ h4 h5 =>
        refine ⟨a, xs, rfl, h4, q _ m1 H1 e1 s1 fun m2 H2 S2 e2 s2 => ?_⟩
        have hl := h5.length
        have hle := enumD_len 0 ds
        refine ⟨fun i hi => ?_, ⟨xs, e2.ev.sqT h4, by omega⟩, fun i d x H' hd y => ?_⟩
        · obtain ⟨x, hx⟩ := lt_get (l := xs) (i := i) (by omega)
          exact ⟨xs, x, e2.ev.sqT h4, hx⟩
        · obtain ⟨T, x', ev, hT, eH, y2⟩ := y
          subst ev; subst eH
          rw [enumD_get] at hd
          cases hdd : ds[i]? with
          | none => rw [hdd] at hd; cases hd
          | some d0 =>
            rw [hdd] at hd
            cases hd
            obtain ⟨v, hv, rv⟩ := h5.get hdd
            have := y2 xs (e2.ev.sqT h4)
            rw [hv] at this
            cases this
            refine ⟨.lay hT, s2.lay hT, .tup (.of upd_same) (.cons ?_ (.cons ((rv.evH e2).ev (.lay hT)) .nil))⟩
            have : (0 + i : Nat) = i := by omega
            rw [this]
            exact .int _
    · cases hf⟩
end
end Cb
namespace Cb
open PySem PySem.Spec PyProof.Rows L2

/-! ## dicts -/
def dK : D → Option Key
  | .int i => some (.inl i)
  | .str x => some (.inr x)
  | _ => none
def valD (ks : List (Key × D)) (k : Key) : Option D := (ks.find? fun kv => decide (kv.1 = k)).map (·.2)
def putD (ks : List (Key × D)) (k : Key) (d : D) : List (Key × D) :=
  if (ks.any fun kv => decide (kv.1 = k)) = true then ks.map (fun kv => if kv.1 = k then (kv.1, d) else kv) else ks ++ [(k, d)]
def mergeD (ks more : List (Key × D)) : List (Key × D) := more.foldl (fun acc kv => putD acc kv.1 kv.2) ks
theorem rp_key {K : PySem.W.Frag} {m : M} {H : Hp} {v : V} {d : D} {k : Key} (r : Rp K m H v d) (h : dK d = some k) : v = kV k := by
  unfold dK at h
  split at h
  · cases h; cases r; rfl
  · cases h; cases r; rfl
  · cases h
inductive DL (K : PySem.W.Frag) (m : M) (H : Hp) : List (Key × V) → List (Key × D) → Prop
  | nil : DL K m H [] []
  | cons {k : Key} {v : V} {d : D} {kvs : List (Key × V)} {ks : List (Key × D)} : Rp K m H v d → DL K m H kvs ks → DL K m H ((k, v) :: kvs) ((k, d) :: ks)
theorem DL.of {K : PySem.W.Frag} {m : M} {H : Hp} : ∀ {kvs : List (Key × V)} {ks : List (Key × D)}, kvs.map (·.1) = ks.map (·.1) → RpAll K m H (kvs.map (·.2)) (ks.map (·.2)) → DL K m H kvs ks
  | [], [], _, _ => .nil
  | [], _ :: _, h, _ => by simp at h
  | _ :: _, [], h, _ => by simp at h
  | (k, v) :: kvs, (k', d) :: ks, h, r => by
    simp only [List.map_cons, List.cons.injEq] at h r
    obtain ⟨h1, h2⟩ := h
    have h1 : k = k' := h1
    subst h1
    cases r with
    | cons r1 r2 => exact .cons r1 (DL.of h2 r2)
theorem DL.keys {K : PySem.W.Frag} {m : M} {H : Hp} {kvs : List (Key × V)} {ks : List (Key × D)} (r : DL K m H kvs ks) : kvs.map (·.1) = ks.map (·.1) := by
  induction r with
  | nil => rfl
  | cons r rs ih => simp [ih]
theorem DL.vals {K : PySem.W.Frag} {m : M} {H : Hp} {kvs : List (Key × V)} {ks : List (Key × D)} (r : DL K m H kvs ks) : RpAll K m H (kvs.map (·.2)) (ks.map (·.2)) := by
  induction r with
  | nil => exact .nil
  | cons r rs ih => exact .cons r ih
theorem DL.length {K : PySem.W.Frag} {m : M} {H : Hp} {kvs : List (Key × V)} {ks : List (Key × D)} (r : DL K m H kvs ks) : kvs.length = ks.length := by
  induction r with
  | nil => rfl
  | cons r rs ih => simp [ih]
theorem DL.val {K : PySem.W.Frag} {m : M} {H : Hp} {kvs : List (Key × V)} {ks : List (Key × D)} (r : DL K m H kvs ks) (k : Key) : (valD ks k = none ∧ valV kvs k = none) ∨ ∃ d v, valD ks k = some d ∧ valV kvs k = some v ∧ Rp K m H v d := by
  induction r with
  | nil => exact .inl ⟨rfl, rfl⟩
  | @cons j v d kvs ks r rs ih =>
    by_cases e : j = k
    · exact .inr ⟨d, v, by simp [valD, List.find?_cons, e], valV_pos (p := (j, v)) e, r⟩
    · have e1 : valD ((j, d) :: ks) k = valD ks k := by simp [valD, List.find?_cons, e]
      rw [e1, valV_neg (p := (j, v)) e]
      exact ih
theorem DL.any {K : PySem.W.Frag} {m : M} {H : Hp} {kvs : List (Key × V)} {ks : List (Key × D)} (r : DL K m H kvs ks) (k : Key) : (kvs.any fun kv => decide (kv.1 = k)) = ks.any fun kv => decide (kv.1 = k) := by
  induction r with
  | nil => rfl
  | cons r rs ih => simp only [List.any_cons, ih]
theorem DL.mp {K : PySem.W.Frag} {m : M} {H : Hp} {kvs : List (Key × V)} {ks : List (Key × D)} (r : DL K m H kvs ks) (k : Key) {v : V} {d : D} (q : Rp K m H v d) : DL K m H (kvs.map fun kv => if kv.1 = k then (kv.1, v) else kv) (ks.map fun kv => if kv.1 = k then (kv.1, d) else kv) := by
  induction r with
  | nil => exact .nil
  | @cons j v' d' kvs ks r rs ih =>
    simp only [List.map_cons]
    by_cases e : j = k
    · rw [if_pos e, if_pos e]; exact .cons q ih
    · rw [if_neg e, if_neg e]; exact .cons r ih
theorem DL.snoc {K : PySem.W.Frag} {m : M} {H : Hp} {kvs : List (Key × V)} {ks : List (Key × D)} (r : DL K m H kvs ks) (k : Key) {v : V} {d : D} (q : Rp K m H v d) : DL K m H (kvs ++ [(k, v)]) (ks ++ [(k, d)]) := by
  induction r with
  | nil => exact .cons q .nil
  | cons r rs ih => exact .cons r ih
theorem DL.put {K : PySem.W.Frag} {m : M} {H : Hp} {kvs : List (Key × V)} {ks : List (Key × D)} (r : DL K m H kvs ks) (k : Key) {v : V} {d : D} (q : Rp K m H v d) : DL K m H (putK kvs k v) (putD ks k d) := by
  unfold putK putD
  rw [r.any k]
  split
  · exact r.mp k q
  · exact r.snoc k q
theorem DL.merge {K : PySem.W.Frag} {m : M} {H : Hp} {more : List (Key × V)} {mores : List (Key × D)} (r : DL K m H more mores) : ∀ {kvs : List (Key × V)} {ks : List (Key × D)}, DL K m H kvs ks → DL K m H (mergeK kvs more) (mergeD ks mores) := by
  induction r with
  | nil => exact fun q => q
  | cons r rs ih => exact fun q => ih (q.put _ r)
theorem DL.ev {K : PySem.W.Frag} {m m' : M} {H H' : Hp} (e : Ev m H m' H') {kvs : List (Key × V)} {ks : List (Key × D)} (r : DL K m H kvs ks) : DL K m' H' kvs ks := by
  induction r with
  | nil => exact .nil
  | cons r rs ih => exact .cons (r.ev e) ih
theorem rp_dic {K : PySem.W.Frag} {m : M} {H : Hp} {S : List O} {v : V} {d : D} {ks : List (Key × D)} (s : SR C K m H S) (r : Rp K m H v d) (h : dicS S d = some ks) : ∃ a kvs, v = .ref a ∧ H a = some (.dK kvs) ∧ DL K m H kvs ks := by
  obtain ⟨a, kvs, e, h1, h2, h3⟩ := rp_dicS s r h
  exact ⟨a, kvs, e, h1, .of h2 h3⟩
section
variable {X : Cx} {C : Addr} {pos : Pos} {a b c e tg iter : Expr} {es : List Expr} {ta tb tc te : TE} {tA : TA} {fa fb fc f : E} {g : A}
/-! ### d[k], k in d, d.get(k, x), d[k] = v -/
def dGet : Op2 := fun x y S => (dicS S x).bind fun ks => (dK y).bind fun k => valD ks k
theorem s_dget {K : PySem.W.Frag} (ho : ESem C K ta fa) (hi : ESem C K tb fb) : ESem C K (tDGet ta tb) (eOp dGet fa fb) := fun m σ H δ S d S' Q er sr hf q => by
  unfold eOp dGet at hf
  obtain ⟨⟨d1, S1⟩, q1, hf⟩ := Option.bind_eq_some_iff.mp hf
  obtain ⟨⟨d2, S2⟩, q2, hf⟩ := Option.bind_eq_some_iff.mp hf
  obtain ⟨d3, q3, hf⟩ := Option.bind_eq_some_iff.mp hf
  cases hf
  obtain ⟨ks, q4, q3⟩ := Option.bind_eq_some_iff.mp q3
  obtain ⟨k, q5, q3⟩ := Option.bind_eq_some_iff.mp q3
  refine ho m σ H δ S d1 S1 _ er sr q1 fun v m1 H1 e1 s1 r1 => ?_
  refine hi m1 σ H1 δ S1 d2 S2 _ (er.ev e1) s1 q2 fun u m2 H2 e2 s2 r2 => ?_
  obtain ⟨p, kvs, ee, h1, h2⟩ := rp_dic s2 (r1.ev e2) q4
  subst ee
  have ek := rp_key r2 q5
  subst ek
  rcases h2.val k with ⟨z, _⟩ | ⟨d', v, z1, z2, r3⟩
  · rw [q3] at z; cases z
  · rw [q3] at z1; cases z1
    exact ⟨p, v, rfl, by rw [← z2]; exact .k h1, q v m2 H2 (e1.trans e2) s2 r3⟩
theorem re_dget (hu : X.A.units + 1 < cLine) (ho : RE X C a ta fa) (hi : RE X C b tb fb) (hs : NoSl b := by exact fun _ _ => rfl) : RE X C (.Subscript a b pos) (tDGet ta tb) (eOp dGet fa fb) := ⟨pe_dget hu ho.p hi.p hs, s_dget ho.s hi.s⟩
def dInK (neg : Bool) : Op2 := fun y x S => (dicS S x).bind fun ks => (dK y).bind fun k => some (.bl (if neg then !(valD ks k).isSome else (valD ks k).isSome))
def rInK (neg : Bool) : R2 := fun y x H Q => ∃ a o, x = .ref a ∧ DGet H a y o ∧ Q (.bl (if neg then !o.isSome else o.isSome)) H
theorem op_inK (hu : X.A.units + 1 < cLine) : OpR X (compareOp .In) (rInK false) := by
  intro pins s σ H y x u v Q I ry rx h
  obtain ⟨a, o, ex, g, q⟩ := h
  subst ex
  obtain rfl : v = Value.ref a := rx
  exact d_in hu I g ry fun s3 I3 => ⟨.bl o.isSome, H, I3, rfl, q⟩
theorem op_notInK (hu : X.A.units + 1 < cLine) : OpR X (compareOp .NotIn) (rInK true) := by
  intro pins s σ H y x u v Q I ry rx h
  obtain ⟨a, o, ex, g, q⟩ := h
  subst ex
  obtain rfl : v = Value.ref a := rx
  exact d_notIn hu I g ry fun s3 I3 => ⟨.bl (!o.isSome), H, I3, rfl, q⟩
theorem s_inK {K : PySem.W.Frag} {neg : Bool} : R2Sem C K (rInK neg) (dInK neg) := fun m H x y d1 d2 S d Q r1 r2 sr hf q => by
  unfold dInK at hf
  obtain ⟨ks, q4, hf⟩ := Option.bind_eq_some_iff.mp hf
  obtain ⟨k, q5, hf⟩ := Option.bind_eq_some_iff.mp hf
  cases hf
  obtain ⟨p, kvs, ee, h1, h2⟩ := rp_dic sr r2 q4
  subst ee
  have ek := rp_key r1 q5
  subst ek
  refine ⟨p, _, rfl, .k h1, ?_⟩
  have e : (valV kvs k).isSome = (valD ks k).isSome := by
    rcases h2.val k with ⟨z1, z2⟩ | ⟨d', v, z1, z2, r3⟩ <;> rw [z1, z2] <;> rfl
  rw [e]
  exact q _ m H .refl sr (.bl _)
theorem rc_din (hu : X.A.units + 1 < cLine) (ha : RE X C a ta fa) (hb : RE X C b tb fb) (hm : behindInMarks .In b = false := by rfl) : RC X C (.Compare a [.In] [b] pos) (tOp (rInK false) ta tb) (eOp (dInK false) fa fb) := rc_op (op_inK hu) s_inK ha hb hm
theorem rc_dnotin (hu : X.A.units + 1 < cLine) (ha : RE X C a ta fa) (hb : RE X C b tb fb) (hm : behindInMarks .NotIn b = false := by rfl) : RC X C (.Compare a [.NotIn] [b] pos) (tOp (rInK true) ta tb) (eOp (dInK true) fa fb) := rc_op (op_notInK hu) s_inK ha hb hm
def isDic (S : List O) (d : D) : Bool := (dicS S d).isSome
theorem isDic_is {K : PySem.W.Frag} {m : M} {H : Hp} {S : List O} {v : V} {d : D} (s : SR C K m H S) (r : Rp K m H v d) (h : isDic S d = true) : ∃ a, v = .ref a ∧ IsD H a := by
  obtain ⟨ks, hk⟩ := Option.isSome_iff_exists.mp h
  obtain ⟨a, kvs, e, h1, _⟩ := rp_dic s r hk
  exact ⟨a, e, .inl ⟨kvs, .inl h1⟩⟩
def eGet2 (f1 f2 f3 : E) : E := fun δ S => (f1 δ S).bind fun x => if isDic x.2 x.1 = true then (f2 δ x.2).bind fun y => (f3 δ y.2).bind fun z => (dicS z.2 x.1).bind fun ks => (dK y.1).bind fun k => some ((valD ks k).getD z.1, z.2) else none
theorem re_dget2 {apos : Pos} (hu : X.A.units + 1 < cLine) (ho : RE X C a ta fa) (he : RE X C b tb fb) (hf : RE X C c tc fc) (m : M2 X a "get" apos b c pos) : RE X C (.Call (.Attribute a "get" apos) [b, c] [] pos) (tDGet2 ta tb tc) (eGet2 fa fb fc) := ⟨pe_dget2 hu ho.p he.p hf.p m, fun m σ H δ S d S' Q er sr hf' q => by
  unfold eGet2 at hf'
  obtain ⟨⟨d1, S1⟩, q1, hf'⟩ := Option.bind_eq_some_iff.mp hf'
  split at hf'
  · rename_i hd
    obtain ⟨⟨d2, S2⟩, q2, hf'⟩ := Option.bind_eq_some_iff.mp hf'
    obtain ⟨⟨d3, S3⟩, q3, hf'⟩ := Option.bind_eq_some_iff.mp hf'
    obtain ⟨ks, q4, hf'⟩ := Option.bind_eq_some_iff.mp hf'
    obtain ⟨k, q5, hf'⟩ := Option.bind_eq_some_iff.mp hf'
    cases hf'
    refine ho.s m σ H δ S d1 S1 _ er sr q1 fun v m1 H1 e1 s1 r1 => ?_
    obtain ⟨p, ep, hD⟩ := isDic_is s1 r1 hd
    refine ⟨p, ep, hD, ?_⟩
    refine he.s m1 σ H1 δ S1 d2 S2 _ (er.ev e1) s1 q2 fun u m2 H2 e2 s2 r2 => ?_
    refine hf.s m2 σ H2 δ S2 d3 S3 _ (er.ev (e1.trans e2)) s2 q3 fun w m3 H3 e3 s3 r3 => ?_
    obtain ⟨p', kvs, ee, h1, h2⟩ := rp_dic s3 (r1.ev (e2.trans e3)) q4
    rw [ep] at ee
    cases ee
    have ek := rp_key r2 q5
    subst ek
    refine ⟨_, .k h1, ?_⟩
    rcases h2.val k with ⟨z1, z2⟩ | ⟨d', v', z1, z2, r4⟩
    · rw [z2]; exact q w m3 H3 (e1.trans (e2.trans e3)) s3 (by rw [z1]; exact r3)
    · rw [z2]; exact q v' m3 H3 (e1.trans (e2.trans e3)) s3 (by rw [z1]; exact r4)
  · cases hf'⟩
/-- d[k] = v, of a changing dict -/
def sDput (fe fo fi : E) : B := fun δ S => (fe δ S).bind fun v => (fo δ v.2).bind fun o => (fi δ o.2).bind fun i => (dK i.1).bind fun k =>
  (setO i.2 o.1 fun ob => match ob with | .dic ks => if ks.length < 16777216 then some (.dic (putD ks k v.1)) else none | _ => none).bind fun S' => some (.nx δ S')
theorem rs_dput {pos' : Pos} (hu : X.A.units + 1 < cLine) (he : RE X C e te f) (ho : RE X C a ta fa) (hi : RE X C b tb fb) (hs : swapsWith e (some (.Subscript a b pos')) pos.line X.env = pure false := by rfl) :
    RS X C (.Assign [.Subscript a b pos'] e pos) (L2.sDPut ta tb te) (sDput f fa fb) := ⟨ps_dput hu ho.p hi.p he.p hs, fun m σ H δ S o Z er sr hf q => by
  unfold sDput at hf
  obtain ⟨⟨d1, S1⟩, q1, hf⟩ := Option.bind_eq_some_iff.mp hf
  obtain ⟨⟨d2, S2⟩, q2, hf⟩ := Option.bind_eq_some_iff.mp hf
  obtain ⟨⟨d3, S3⟩, q3, hf⟩ := Option.bind_eq_some_iff.mp hf
  obtain ⟨k, qk, hf⟩ := Option.bind_eq_some_iff.mp hf
  obtain ⟨S4, q4, hf⟩ := Option.bind_eq_some_iff.mp hf
  cases hf
  refine he.s m σ H δ S d1 S1 _ er sr q1 fun v m1 H1 e1 s1 r1 => ?_
  refine ho.s m1 σ H1 δ S1 d2 S2 _ (er.ev e1) s1 q2 fun u m2 H2 e2 s2 r2 => ?_
  refine hi.s m2 σ H2 δ S2 _ S3 _ (er.ev (e1.trans e2)) s2 q3 fun w m3 H3 e3 s3 r3 => ?_
  have ek := rp_key r3 qk
  subst ek
  have r2' := r2.ev e3
  have r1' := r1.ev (e2.trans e3)
  obtain ⟨n, ob, ob', ed, q5, q6, eS⟩ := setO_inv q4
  have ed : d2 = .ref n := ed
  subst ed
  subst eS
  dsimp only at q6
  split at q6
  · split at q6
    · rename_i ks hl
      cases q6
      cases r2' with
      | @ref p _ hn =>
        obtain ⟨kvs, h1, h2, h3⟩ := s3.obj _ _ _ hn q5
        have dl := DL.of h2 h3
        obtain ⟨_, hu, ht, hf⟩ := s3.nottup (List.mem_of_getElem? hn)
        have es : Ev m3 H3 m3 (upd H3 p (.dK (putK kvs k v))) := .set (List.mem_of_getElem? hn) hu ht hf
        have dl2 := (dl.put k r1').ev es
        refine ⟨p, _, rfl, .k h1 (by rw [dl.length]; exact lt_line hl), ?_⟩
        exact q m3 σ _ (e1.trans (e2.trans (e3.trans es))) (er.ev (e1.trans (e2.trans (e3.trans es)))) (s3.put hn ⟨_, upd_same, dl2.keys, dl2.vals⟩)
    · cases q6
  · cases q6⟩
/-! ### new dicts -/
def ddNew : DD := fun _ S => some ([], S)
theorem rd_new : RD X C (.Dict [] [] pos) tDNewK ddNew := ⟨pe_dnewK, fun m σ H δ S ds S' Q er sr hf q => by
  cases hf
  exact fun p hp => q p [] m _ (.lay hp) hp upd_same (sr.hideLay hp) rfl .nil⟩
abbrev PP := Sl → List O → Option (List (D × D) × List O)
def PSem (C : Addr) (K : PySem.W.Frag) (t : List (TE × TE)) (f : PP) : Prop := ∀ m σ H δ S ps S' Q, ER K m H σ δ → SR C K m H S → f δ S = some (ps, S') →
  (∀ vs m' H', Ev m H m' H' → SR C K m' H' S' → RpAll K m' H' (vs.map (·.1)) (ps.map (·.1)) → RpAll K m' H' (vs.map (·.2)) (ps.map (·.2)) → Q vs H') → tPairs t σ H Q
structure RPs (X : Cx) (C : Addr) (pos : Pos) (ks : List (Option Expr)) (vs : List Expr) (t : List (TE × TE)) (f : PP) : Prop where
  p : PPs X pos ks vs t
  s : PSem C X.K t f
def ppNil : PP := fun _ S => some ([], S)
def ppCons (f1 f2 : E) (g : PP) : PP := fun δ S => (f1 δ S).bind fun x => (f2 δ x.2).bind fun y => (g δ y.2).bind fun r => some ((x.1, y.1) :: r.1, r.2)
theorem rpps_nil : RPs X C pos [] [] [] ppNil := ⟨pps_nil, fun m σ H δ S ps S' Q er sr hf q => by cases hf; exact q [] m H .refl sr .nil .nil⟩
theorem rpps_cons {ks : List (Option Expr)} {vs : List Expr} {t : List (TE × TE)} {gp : PP} (ha : RE X C a ta fa) (hb : RE X C b tb fb) (hr : RPs X C pos ks vs t gp) : RPs X C pos (some a :: ks) (b :: vs) ((ta, tb) :: t) (ppCons fa fb gp) := ⟨pps_cons ha.p hb.p hr.p, fun m σ H δ S ps S' Q er sr hf q => by
  unfold ppCons at hf
  obtain ⟨⟨d1, S1⟩, q1, hf⟩ := Option.bind_eq_some_iff.mp hf
  obtain ⟨⟨d2, S2⟩, q2, hf⟩ := Option.bind_eq_some_iff.mp hf
  obtain ⟨⟨r, S3⟩, q3, hf⟩ := Option.bind_eq_some_iff.mp hf
  cases hf
  refine ha.s m σ H δ S d1 S1 _ er sr q1 fun v m1 H1 e1 s1 r1 => ?_
  refine hb.s m1 σ H1 δ S1 d2 S2 _ (er.ev e1) s1 q2 fun u m2 H2 e2 s2 r2 => ?_
  refine hr.s m2 σ H2 δ S2 r S3 _ (er.ev (e1.trans e2)) s2 q3 fun vs m3 H3 e3 s3 a3 b3 => ?_
  exact q ((v, u) :: vs) m3 H3 (e1.trans (e2.trans e3)) s3 (.cons (r1.ev (e2.trans e3)) a3) (.cons (r2.ev e3) b3)⟩
mutual
theorem Rp.overK {K : PySem.W.Frag} {m : M} {H : Hp} {p : Addr} {zs : List (Key × V)} {o : HO} (hp : p ∈ m.b) (hl : H p = some (.dK zs)) : ∀ {v : V} {d : D}, Rp K m H v d → Rp K m (upd H p o) v d
  | _, _, .non => .non
  | _, _, .bl b => .bl b
  | _, _, .int i => .int i
  | _, _, .str x => .str x
  | _, _, .tup h r => .tup (by
      rcases h with (h | ⟨u, h⟩) | h
      · exact .inl (.inl (by rw [upd_ne (fun e => by subst e; rw [h] at hl; cases hl)]; exact h))
      · exact .inl (.inr ⟨u, by rw [upd_ne (fun e => by subst e; rw [h] at hl; cases hl)]; exact h⟩)
      · exact .inr h) (RpAll.overK hp hl r)
  | _, _, .lst h n r => .lst (by rw [upd_ne (fun e => by subst e; exact n (.inr hp))]; exact h) n (RpAll.overK hp hl r)
  | _, _, .scr h => .scr (by
      rcases h with ⟨u, h⟩ | h
      · exact .inl ⟨u, by rw [upd_ne (fun e => by subst e; rw [h] at hl; cases hl)]; exact h⟩
      · exact .inr h)
  | _, _, .dic h n k r => .dic (by rw [upd_ne (fun e => by subst e; exact n (.inr hp))]; exact h) n k (RpAll.overK hp hl r)
  | _, _, .ref h => .ref h
  | _, _, .tun h h1 h2 r => .tun (by rw [upd_ne (fun e => by subst e; rw [h] at hl; cases hl)]; exact h) h1 h2 (RpAll.overK hp hl r)
  | _, _, .fn h => .fn h
theorem RpAll.overK {K : PySem.W.Frag} {m : M} {H : Hp} {p : Addr} {zs : List (Key × V)} {o : HO} (hp : p ∈ m.b) (hl : H p = some (.dK zs)) : ∀ {vs : List V} {ds : List D}, RpAll K m H vs ds → RpAll K m (upd H p o) vs ds
  | _, _, .nil => .nil
  | _, _, .cons r rs => .cons (Rp.overK hp hl r) (RpAll.overK hp hl rs)
end
theorem SR.overK {K : PySem.W.Frag} {m : M} {H : Hp} {S : List O} {p : Addr} {zs : List (Key × V)} {o : HO} (s : SR C K m H S) (hp : p ∈ m.b) (hl : H p = some (.dK zs)) : SR C K m (upd H p o) S :=
  ⟨s.nd, s.len, fun n a ob h1 h2 => (s.obj n a ob h1 h2).mp (upd_ne (fun e => by subst e; exact s.apt a hp (List.mem_of_getElem? h1))) (RpAll.overK hp hl), fun a ha => by
    by_cases e : a = p
    · rw [e, upd_same]; exact fun z => nomatch z
    · rw [upd_ne e]; exact s.hid a ha, s.apt⟩
def keysD : List (D × D) → Option (List (Key × D))
  | [] => some []
  | (k, d) :: r => (dK k).bind fun k => (keysD r).bind fun r => some ((k, d) :: r)
theorem keysD_rp {K : PySem.W.Frag} {m : M} {H : Hp} : ∀ {vs : List (V × V)} {ps : List (D × D)} {ks : List (Key × D)}, keysD ps = some ks → RpAll K m H (vs.map (·.1)) (ps.map (·.1)) → RpAll K m H (vs.map (·.2)) (ps.map (·.2)) →
    ∃ kvs : List (Key × V), vs = kvs.map (fun kv => (kV kv.1, kv.2)) ∧ DL K m H kvs ks
  | [], [], ks, h, _, _ => by cases h; exact ⟨[], rfl, .nil⟩
  | [], _ :: _, _, _, r, _ => by simp at r; cases r
  | _ :: _, [], _, _, r, _ => by simp at r; cases r
  | (v, u) :: vs, (k, d) :: ps, ks, h, r, q => by
    unfold keysD at h
    obtain ⟨k', h1, h⟩ := Option.bind_eq_some_iff.mp h
    obtain ⟨ks', h2, h⟩ := Option.bind_eq_some_iff.mp h
    cases h
    simp only [List.map_cons] at r q
    cases r with
    | cons r1 r2 =>
      cases q with
      | cons q1 q2 =>
        obtain ⟨kvs, e, dl⟩ := keysD_rp h2 r2 q2
        have ek := rp_key r1 h1
        have ek : v = kV k' := ek
        subst ek
        subst e
        exact ⟨(k', u) :: kvs, rfl, .cons q1 dl⟩
def ddDisp (g : PP) : DD := fun δ S => (g δ S).bind fun p => if p.1.length ≤ 15 then (keysD p.1).bind fun ks => some (mergeD [] ks, p.2) else none
theorem rd_disp {keys : List (Option Expr)} {values : List Expr} {t : List (TE × TE)} {gp : PP} (h : RPs X C pos keys values t gp) (hall : keys.all (·.isSome) = true := by rfl) (hl : keys.length = values.length := by rfl) (h0 : keys ≠ [] := by exact (fun z => nomatch z))
    (h15 : keys.length ≤ 15 := by decide) : RD X C (.Dict keys values pos) (tDisp t) (ddDisp gp) := ⟨pe_disp h.p hall hl h0 h15, fun m σ H δ S ds S' Q er sr hf q => by
  unfold ddDisp at hf
  obtain ⟨⟨ps, S1⟩, q1, hf⟩ := Option.bind_eq_some_iff.mp hf
  split at hf
  · rename_i hlen
    have hlen : ps.length ≤ 15 := hlen
    obtain ⟨ks, q2, hf⟩ := Option.bind_eq_some_iff.mp hf
    cases hf
    intro p hp
    have er' : ER X.K (m.hide p) (upd H p (.dK [])) σ δ := ⟨er.len, fun i d q => let ⟨v, a, b⟩ := er.get i d q; ⟨v, a, b.hide hp (.lay hp)⟩⟩
    refine h.s (m.hide p) σ _ δ S ps _ _ er' (sr.hideLay hp) q1 fun vs m2 H2 e2 s2 a2 b2 => ?_
    obtain ⟨l2, b2'⟩ := m2
    have hb2 : b2' = p :: m.b := e2.hid
    subst hb2
    have hpl : p ∉ m.l := sr.notl hp
    have hx2 : H2 p = some (.dK []) := e2.keep _ _ upd_same hpl
    obtain ⟨kvs, ev, dl⟩ := keysD_rp q2 a2 b2
    refine ⟨hx2, kvs, ev, ?_, ?_⟩
    · have h1 := a2.length
      rw [List.length_map, List.length_map, ev, List.length_map] at h1
      omega
    · have e3 : Ev m H ⟨l2, m.b⟩ H2 := (Ev.lay hp).trans ⟨e2.pre, rfl, e2.new, e2.keep, e2.tup, e2.frz⟩
      have dm := dl.merge (.nil (K := X.K) (m := ⟨l2, p :: m.b⟩) (H := H2))
      exact q p _ ⟨l2, m.b⟩ _ (e3.over hp) hp upd_same (s2.overK List.mem_cons_self hx2) dm.keys (RpAll.overK List.mem_cons_self hx2 dm.vals)
  · cases hf⟩
/-! ### dict(d), dict(pairs) -/
abbrev Bd := List D → List O → Option (List (Key × D))
def CdSem (C : Addr) (K : PySem.W.Frag) (r : List V → Hp → VK → Prop) (g : Bd) : Prop := ∀ m H xs ds S d Q, RpAll K m H xs ds → SR C K m H S → g ds S = some d →
  (∀ p ys, H p = none → DL K m H ys d → Q (.ref p) (upd H p (.dK ys))) → r xs H Q
def ddBi (k : Bd) (g : A) : DD := fun δ S => (g δ S).bind fun p => (k p.1 p.2).bind fun d => some (d, p.2)
theorem s_bd {K : PySem.W.Frag} {r : List V → Hp → VK → Prop} {k : Bd} (hc : CdSem C K r k) (h : ASem C K tA g) : DSem C K (tCB r tA) (ddBi k g) := fun m σ H δ S d S' Q er sr hf q => by
  unfold ddBi at hf
  obtain ⟨⟨ds, S1⟩, q1, hf⟩ := Option.bind_eq_some_iff.mp hf
  obtain ⟨d2, q2, hf⟩ := Option.bind_eq_some_iff.mp hf
  cases hf
  refine h m σ H δ S ds S1 _ er sr q1 fun vs m1 H1 e1 s1 r1 => ?_
  exact hc m1 H1 vs ds S1 _ _ r1 s1 q2 fun p ys hp r2 => q p ys m1 _ (e1.trans (.lay hp)) (e1.free s1 hp) upd_same (s1.hideLay hp) r2.keys (r2.vals.hide hp (.lay hp))
theorem rd_callTy {T : String} {x : Str} {r : List V → Hp → VK → Prop} {k : Bd} {p : Pos} (hc : CallR X (.type T) r) (hs : CdSem C X.K r k) (hg : Gl X x) (hm : X.mg x = none) (hv : bootBuiltins x = some (.type T)) (ha : RA X C (e :: es) tA g) (hn : x ≠ "__name__" := by decide) (hdb : (x == ("__debug__" : Str)) = false := by decide)
    (he : starEach (e :: es) X.env = (false, eval e X.env) :: starEach es X.env := by rfl) (hpl : (backTo pos (starEach es X.env)).any (·.1) = false := by rfl) :
    RD X C (.Call (.Name x p) (e :: es) [] pos) (tCB r tA) (ddBi k g) := ⟨pe_callTy hc hg hm hv ha.p hn hdb he hpl, s_bd hs ha.s⟩
def bdCopy : Bd := fun ds S => match ds with
  | [d] => dicS S d
  | _ => none
def rCopyK : List V → Hp → VK → Prop := fun xs H Q => ∃ a kvs, xs = [.ref a] ∧ H a = some (.dK kvs) ∧ ∀ p, H p = none → Q (.ref p) (upd H p (.dK kvs))
theorem cr_copyK : CallR X (.type "dict") rCopyK := by
  intro pins s σ H xs us Q I r q
  obtain ⟨a, kvs, ex, hq, q⟩ := q
  subst ex
  obtain ⟨u, eu, rx⟩ := vals1 r
  subst eu
  cases rx
  exact d_copyOf I (.inl hq) fun p s' hp I' => ⟨.ref p, _, I', rfl, q p hp⟩
theorem s_copyK {K : PySem.W.Frag} : CdSem C K rCopyK bdCopy := fun m H xs ds S d Q r sr hf q => by
  unfold bdCopy at hf
  split at hf
  · cases r with
    | cons r1 rr =>
      cases rr
      obtain ⟨a, kvs, e, h1, h2⟩ := rp_dic sr r1 hf
      subst e
      exact ⟨a, kvs, rfl, h1, fun p hp => q p _ hp h2⟩
  · cases hf
def ddCopy (g : A) : DD := ddBi bdCopy g
theorem rd_copy {p : Pos} (hg : Gl X "dict") (hm : X.mg "dict" = none) (ha : RA X C (e :: es) tA g) (he : starEach (e :: es) X.env = (false, eval e X.env) :: starEach es X.env := by rfl) (hpl : (backTo pos (starEach es X.env)).any (·.1) = false := by rfl) :
    RD X C (.Call (.Name "dict" p) (e :: es) [] pos) (tCB rCopyK tA) (ddCopy g) := rd_callTy cr_copyK s_copyK hg hm (by decide +kernel) ha (by decide) (by decide) he hpl
end
theorem unL {A : Around} (r : Room 230 A) : A.units + 3800 < cLine := by have := r.un; omega
end Cb
namespace Cb
open PySem PySem.Spec PyProof.Rows L2

/-! ### zip(text, tuple) -/
def ItzS (K : PySem.W.Frag) (x : Str) (b : Addr) : It :=
  ⟨fun i H => ∃ (ys : List V) (y : V), SqT K H b ys ∧ i < x.cps.size ∧ ys[i]? = some y,
    fun i H v H' => ∃ (T : Addr) (c : Nat) (y : V), v = .ref T ∧ H T = none ∧ H' = upd H T (.tup [.str ⟨#[c]⟩, y]) ∧ x.cps[i]? = some c ∧ ∀ ys, SqT K H b ys → ys[i]? = some y,
    fun i H => ∃ ys : List V, SqT K H b ys ∧ i ≤ x.cps.size ∧ i ≤ ys.length ∧ (i = x.cps.size ∨ i = ys.length)⟩
theorem turn_zipS {P : Program} {w : World} {K : PySem.W.Frag} {elts : List Expr} {kk : Nat} {tpos : Pos} {x : Str} {t : Tok} {b z TI TO i1 i2 : Addr} (D : ZipSep2 z TI TO i1 i2 [i1] [i2, b]) :
    Turn P w K (.Tuple elts kk tpos) (ItzS K x b) [z, TI, TO, i1, i2] z (fun i h => IsZip h z TI TO .none ∧ IsTupOf2 h TI (.ref i1) (.ref i2) ∧ (∃ a1 a2, IsTupOf2 h TO a1 a2) ∧ h.IsStrIter i1 (strIterType x) x t i ∧ h.IsTupleIter i2 b i) where
  mem := by simp
  obj := fun i h st c hc => by
    obtain ⟨hz, hTI, ⟨x, y, hTO⟩, ⟨o1, e1, _, d1⟩, ⟨o2, e2, _, d2⟩⟩ := st
    have e' : c = z ∨ c = TI ∨ c = TO ∨ c = i1 ∨ c = i2 := by simpa using hc
    rcases e' with q | q | q | q | q
    · rw [q]; exact ⟨_, hz, fun v q => nomatch q⟩
    · rw [q]; exact ⟨_, hTI, fun v q => nomatch q⟩
    · rw [q]; exact ⟨_, hTO, fun v q => nomatch q⟩
    · rw [q]; exact ⟨o1, e1, fun v q => by rw [d1] at q; cases q⟩
    · rw [q]; exact ⟨o2, e2, fun v q => by rw [d2] at q; cases q⟩
  keep := fun i h h' st k => by
    obtain ⟨hz, hTI, ⟨x, y, hTO⟩, h1, h2⟩ := st
    exact ⟨k z (by simp) _ hz, k TI (by simp) _ hTI, ⟨x, y, k TO (by simp) _ hTO⟩, let ⟨o, q, r⟩ := h1; ⟨o, k i1 (by simp) o q, r⟩, h2.at fun o q => k i2 (by simp) o q⟩
  item := by
    intro X hP hw hK hc i pins s σ H E I hf st hg
    subst hP hw hK
    obtain ⟨hz, hTI, ⟨x0, y0, hTO⟩, h1, h2⟩ := st
    obtain ⟨ys, y, hqy, hx, hy⟩ := hg
    obtain ⟨its2, rv2, p2, _⟩ := I.tuple hqy
    obtain ⟨u2, hu2, ru2⟩ := rv2.get hy
    have p2' : s.heap.IsTuple b its2.toArray := p2
    have hzl : z < s.heap.objs.size := Heap.lt_size hz
    have hiu : i < its2.length := (List.getElem?_eq_some_iff.mp hu2).1
    have hh := I.ok.hd hc
    have hb2 : b ≠ i2 := by
      intro e
      subst e
      exact tit_apart h2 p2' rfl
    refine wpAny_pyNext_zipD2_item D (Draws.text (A := X.A.in1) hh i1 x t) (Draws.tuple (A := X.A.in1) hh i2 b hb2 its2.toArray) hz hTI hTO h1 ⟨h2, p2'⟩ hx (by simpa using hiu) fun x1 x2 h' tk P1 P2 z' TO' st1 st2 hT hsz hk => ?_
    obtain ⟨c, uu, hcx, rfl⟩ := P1
    have e2 : x2 = u2 := by
      have P2 : its2.toArray[i]? = some x2 := P2
      rw [List.getElem?_toArray, hu2] at P2
      exact (Option.some.inj P2).symm
    subst e2
    obtain ⟨h2', _⟩ := st2
    refine ⟨_, rfl, wpAny_letOwnedTupleGo_zip (s := { s with heap := h', toks := tk }) z' fun h'' z'' sb => ?_⟩
    have hT2 : h''.get? s.heap.objs.size = some { cls := .type "tuple", data := .seq #[.str ⟨#[c]⟩ uu, x2] } := (sb.2 _ (Nat.ne_of_gt hzl)).trans hT
    have new : ObjOk X.prog X.w (upd H s.heap.objs.size (.tup [.str ⟨#[c]⟩, y])) h'' s.heap.objs.size (.tup [.str ⟨#[c]⟩, y]) :=
      ⟨by show 2 ≤ sizeLine; decide, [.str ⟨#[c]⟩ uu, x2], .cons ⟨_, rfl⟩ (.cons ru2 .nil), ⟨_, hT2, rfl, _, rfl⟩⟩
    have I1 : Inv X pins σ (upd H s.heap.objs.size (.tup [.str ⟨#[c]⟩, y])) { s with heap := h'', toks := tk } :=
      I.turnedNew (t' := tk) (ch := [z, TI, TO, i1, i2]) (fun c o hb q => (sb.2 c (fun q' => hb (by simp [q']))).trans (hk c o (fun q' => hb (by simp [q'])) (fun q' => hb (by simp [q'])) (fun q' => hb (by simp [q'])) (fun q' => hb (by simp [q'])) q)) hf (Nat.le_refl _) new
    refine ⟨.ref s.heap.objs.size, _, I1, rfl, ⟨_, c, y, rfl, I.hok.fresh (Nat.le_refl _), rfl, hcx, fun l hl => by rw [I.tuple_inj hl hqy]; exact hy⟩, ⟨z'', ?_, ⟨.str ⟨#[c]⟩ uu, x2, ?_⟩, ?_, ?_⟩, fun c hcm => ?_⟩
    · exact (sb.2 _ D.TIz).trans (hk _ _ D.TIz D.TITO D.TIi1 D.TIi2 hTI)
    · exact (sb.2 _ D.TOz).trans TO'
    · obtain ⟨o, q, r⟩ := st1
      exact ⟨o, (sb.2 _ (Ne.symm D.zi1)).trans q, r⟩
    · exact h2'.at fun o q => (sb.2 _ (Ne.symm D.zi2)).trans q
    · have hlt : c < s.heap.objs.size := by
        have e' : c = z ∨ c = TI ∨ c = TO ∨ c = i1 ∨ c = i2 := by simpa using hcm
        rcases e' with q | q | q | q | q
        · rw [q]; exact hzl
        · rw [q]; exact Heap.lt_size hTI
        · rw [q]; exact Heap.lt_size hTO
        · rw [q]; obtain ⟨_, e1, _⟩ := h1; exact Heap.lt_size e1
        · rw [q]; obtain ⟨_, e2, _⟩ := h2; exact Heap.lt_size e2
      rw [upd_ne (Nat.ne_of_lt hlt)]
      exact (hf c hcm).1
  done := by
    intro X hP hw hK hc i pins s σ H E I hf st hg
    subst hP hw hK
    obtain ⟨hz, hTI, ⟨x0, y0, hTO⟩, h1, h2⟩ := st
    obtain ⟨ys, hqy, hle1, hle2, hend⟩ := hg
    obtain ⟨its2, rv2, p2, _⟩ := I.tuple hqy
    have l2 := rv2.length
    have p2' : s.heap.IsTuple b its2.toArray := p2
    have hh := I.ok.hd hc
    have hb2 : b ≠ i2 := by
      intro e
      subst e
      exact tit_apart h2 p2' rfl
    refine wpAny_pyNext_zipD2_end D (Draws.text (A := X.A.in1) hh i1 x t) (Draws.tuple (A := X.A.in1) hh i2 b hb2 its2.toArray) hz hTI hTO h1 ⟨h2, p2'⟩ hle1 (by simp; omega) (by simp; omega) fun h' tk hk => ⟨rfl, I.turnedL (t' := tk) (ch := [z, TI, TO, i1, i2]) (fun c o hb q =>
      hk c o (fun q' => hb (by simp [q'])) (fun q' => hb (by simp [q'])) (fun q' => hb (by simp [q'])) (fun q' => hb (by simp [q'])) q) hf⟩
  self := fun A i s Q E st h => wpAny_pyIter_zip st.1 h
def iZipTS (K : PySem.W.Frag) (ta : TA) : TI := fun σ H R => ta σ H fun vs H1 => ∃ (x : Str) (b : Addr) (ys : List V), vs = [.str x, .ref b] ∧ SqT K H1 b ys ∧ R (ItzS K x b) H1
theorem pi_zipS {X : Cx} {e e2 : Expr} {ta : TA} {p pos tpos : Pos} {elts : List Expr} {kk : Nat} (hg : Gl X "zip") (hm : X.mg "zip" = none) (ha : PA X [e, e2] ta)
    (hs : starEach [e, e2] X.env = (false, eval e X.env) :: starEach [e2] X.env := by rfl) (hpl : (backTo pos (starEach [e2] X.env)).any (·.1) = false := by rfl) :
    PI X (.Tuple elts kk tpos) (.Call (.Name "zip" p) [e, e2] [] pos) (iZipTS X.K ta) := by
  refine ⟨fun pins s σ H R I h => ?_⟩
  refine Call_ (ld_blt I hg hm PyProof.Rows.boot_zip (PyProof.Rows.callWith_type1 (thn (ha.run pos pins s σ H _ I h) fun us s1 ⟨vs, H1, I1, r1, q1⟩ => ?_) hs hpl))
  obtain ⟨x, b, ys, ex, hqy, q⟩ := q1
  subst ex
  cases r1 with
  | cons r rr =>
    cases rr with
    | cons r' rr =>
      cases rr
      obtain ⟨t, rfl⟩ := r
      cases r'
      have fresh5 : ∀ c, c ∈ [s1.heap.objs.size + 4, s1.heap.objs.size + 2, s1.heap.objs.size + 3, s1.heap.objs.size, s1.heap.objs.size + 1] → FpOk X pins H1 c := fun c hcm => by
        have e' : c = s1.heap.objs.size + 4 ∨ c = s1.heap.objs.size + 2 ∨ c = s1.heap.objs.size + 3 ∨ c = s1.heap.objs.size ∨ c = s1.heap.objs.size + 1 := by simpa using hcm
        have hle : s1.heap.objs.size ≤ c := by
          rcases e' with z | z | z | z | z
          · rw [z]; exact Nat.le_add_right _ _
          · rw [z]; exact Nat.le_add_right _ _
          · rw [z]; exact Nat.le_add_right _ _
          · rw [z]; exact Nat.le_refl _
          · rw [z]; exact Nat.le_add_right _ _
        exact I1.fpOk hle (I1.hok.fresh hle)
      obtain ⟨its2, rv2, p2, _⟩ := I1.tuple hqy
      have p2' : s1.heap.IsTuple b its2.toArray := p2
      have hbl : b < s1.heap.objs.size := by obtain ⟨_, e, _⟩ := p2'; exact Heap.lt_size e
      refine zip_begins2 (begins_text x t) (begins_tuple b its2.toArray) trivial p2' fun h' hz hTI hTO g1 g2 hsz hk => wpAny_pyIter_zip hz ?_
      have I2 : Inv X pins σ H1 { s1 with heap := h' } := I1.kept (t' := s1.toks) hk
      exact ⟨s1.heap.objs.size + 4, [s1.heap.objs.size + 4, s1.heap.objs.size + 2, s1.heap.objs.size + 3, s1.heap.objs.size, s1.heap.objs.size + 1], _, _, H1, rfl, I2,
        turn_zipS (t := t) (zip_sep2 (N := s1.heap.objs.size) (fp1 := []) (fp2 := [b]) (by simp) (by simpa using hbl)), ⟨hz, hTI, ⟨_, _, hTO⟩, ⟨_, g1, rfl, rfl⟩, ⟨_, g2, rfl, rfl⟩⟩, fresh5, q⟩
section
variable {X : Cx} {C : Addr} {pos : Pos} {a b c e tg iter : Expr} {es : List Expr} {ta tb tc te : TE} {tA : TA} {fa fb fc f : E} {g : A}
def zipSD : List Nat → List D → List D
  | c :: cs, d :: ds => .tup [.str ⟨#[c]⟩, d] :: zipSD cs ds
  | _, _ => []
theorem zipSD_len : ∀ (cs : List Nat) (ds : List D), (zipSD cs ds).length = min cs.length ds.length
  | [], _ => by simp [zipSD]
  | _ :: _, [] => by simp [zipSD]
  | c :: cs, d :: ds => by simp [zipSD, zipSD_len cs ds]
theorem zipSD_get : ∀ (cs : List Nat) (ds : List D) (i : Nat) (e : D), (zipSD cs ds)[i]? = some e → ∃ c d, cs[i]? = some c ∧ ds[i]? = some d ∧ e = .tup [.str ⟨#[c]⟩, d]
  | [], _, _, _, h => by simp [zipSD] at h
  | _ :: _, [], _, _, h => by simp [zipSD] at h
  | c :: cs, d :: ds, 0, e, h => by
    simp [zipSD] at h
    exact ⟨c, d, rfl, rfl, h.symm⟩
  | c :: cs, d :: ds, i + 1, e, h => by
    simp only [zipSD, List.getElem?_cons_succ] at h ⊢
    exact zipSD_get cs ds i e h
def iZipS (f1 f2 : E) : A := fun δ S => (f1 δ S).bind fun p => (f2 δ p.2).bind fun q => match p.1, q.1 with | .str x, .tup ds => some (zipSD x.cps.toList ds, q.2) | _, _ => none
theorem ri_zipS {elts : List Expr} {kk : Nat} {tpos p : Pos} (hg : Gl X "zip") (hm : X.mg "zip" = none) (h1 : RE X C a ta fa) (h2 : RE X C b tb fb) (hs : starEach [a, b] X.env = (false, eval a X.env) :: starEach [b] X.env := by rfl) (hs2 : starEach [b] X.env = [(false, eval b X.env)] := by rfl) (hpl : (backTo pos (starEach [b] X.env)).any (·.1) = false := by rfl) :
    RI X C (.Tuple elts kk tpos) (.Call (.Name "zip" p) [a, b] [] pos) (iZipTS X.K (tCons ta (tCons tb tNil))) (iZipS fa fb) :=
  ⟨pi_zipS hg hm (pa_cons h1.p (pa_cons h2.p pa_nil hs2) hs) hs hpl, fun m σ H δ S items S' R er sr hf q => by
    unfold iZipS at hf
    obtain ⟨⟨d1, S1⟩, q1, hf⟩ := Option.bind_eq_some_iff.mp hf
    obtain ⟨⟨d2, S2⟩, q2, hf⟩ := Option.bind_eq_some_iff.mp hf
    split at hf
    · rename_i x ds hk1 hk2
      have hk1 : d1 = .str x := hk1
      have hk2 : d2 = .tup ds := hk2
      subst hk1
      subst hk2
      cases hf
      refine h1.s m σ H δ S _ S1 _ er sr q1 fun v m1 H1 e1 s1 r1 => ?_
      refine h2.s m1 σ H1 δ S1 _ S2 _ (er.ev e1) s1 q2 fun u m2 H2 e2 s2 r2 => ?_
      cases r1
      cases r2 with
      | @tup b' ys _ h4 h5 =>
        refine ⟨x, b', ys, rfl, h4, q _ m2 H2 (e1.trans e2) s2 fun m3 H3 S3 e3 s3 => ?_⟩
        have hl := h5.length
        have hle := zipSD_len x.cps.toList ds
        have hz : x.cps.toList.length = x.cps.size := by simp
        refine ⟨fun i hi => ?_, ⟨ys, e3.ev.sqT h4, by omega, by omega, by omega⟩, fun i d v H' hd y => ?_⟩
        · obtain ⟨y, hy⟩ := lt_get (l := ys) (i := i) (by omega)
          exact ⟨ys, y, e3.ev.sqT h4, by omega, hy⟩
        · obtain ⟨T, c, y, ev, hT, eH, hc, y2⟩ := y
          subst ev; subst eH
          obtain ⟨c', d', hc', hd', ed⟩ := zipSD_get _ _ _ _ hd
          subst ed
          have ec : c' = c := by
            rw [Array.getElem?_toList] at hc'
            rw [hc] at hc'
            cases hc'
            rfl
          subst ec
          obtain ⟨v, hv, rv⟩ := h5.get hd'
          have := y2 ys (e3.ev.sqT h4)
          rw [hv] at this
          cases this
          exact ⟨.lay hT, s3.lay hT, .tup (.of upd_same) (.cons (.str _) (.cons ((rv.evH e3).ev (.lay hT)) .nil))⟩
    · cases hf⟩
/-! ### zip(list, list), lists that never change -/
def zipLD : List D → List D → List D
  | c :: cs, d :: ds => .tup [c, d] :: zipLD cs ds
  | _, _ => []
theorem zipLD_len : ∀ (cs : List D) (ds : List D), (zipLD cs ds).length = min cs.length ds.length
  | [], _ => by simp [zipLD]
  | _ :: _, [] => by simp [zipLD]
  | c :: cs, d :: ds => by simp [zipLD, zipLD_len cs ds]
theorem zipLD_get : ∀ (cs : List D) (ds : List D) (i : Nat) (e : D), (zipLD cs ds)[i]? = some e → ∃ c d, cs[i]? = some c ∧ ds[i]? = some d ∧ e = .tup [c, d]
  | [], _, _, _, h => by simp [zipLD] at h
  | _ :: _, [], _, _, h => by simp [zipLD] at h
  | c :: cs, d :: ds, 0, e, h => by
    simp [zipLD] at h
    exact ⟨c, d, rfl, rfl, h.symm⟩
  | c :: cs, d :: ds, i + 1, e, h => by
    simp only [zipLD, List.getElem?_cons_succ] at h ⊢
    exact zipLD_get cs ds i e h
def iZip (f1 f2 : E) : A := fun δ S => (f1 δ S).bind fun p => (f2 δ p.2).bind fun q => (seqP p.1).bind fun xs => (seqP q.1).bind fun ys => some (zipLD xs ys, q.2)
theorem ri_zip {elts : List Expr} {kk : Nat} {tpos p : Pos} (hg : Gl X "zip") (hm : X.mg "zip" = none) (h1 : RE X C a ta fa) (h2 : RE X C b tb fb) (hs : starEach [a, b] X.env = (false, eval a X.env) :: starEach [b] X.env := by rfl) (hs2 : starEach [b] X.env = [(false, eval b X.env)] := by rfl) (hpl : (backTo pos (starEach [b] X.env)).any (·.1) = false := by rfl) :
    RI X C (.Tuple elts kk tpos) (.Call (.Name "zip" p) [a, b] [] pos) (RZ.iZipA X.K (tCons ta (tCons tb tNil))) (iZip fa fb) :=
  ⟨RZ.pi_zipA hg hm (pa_cons h1.p (pa_cons h2.p pa_nil hs2) hs) hs hpl, fun m σ H δ S items S' R er sr hf q => by
    unfold iZip at hf
    obtain ⟨⟨d1, S1⟩, q1, hf⟩ := Option.bind_eq_some_iff.mp hf
    obtain ⟨⟨d2, S2⟩, q2, hf⟩ := Option.bind_eq_some_iff.mp hf
    obtain ⟨xs, q3, hf⟩ := Option.bind_eq_some_iff.mp hf
    obtain ⟨ys, q4, hf⟩ := Option.bind_eq_some_iff.mp hf
    cases hf
    refine h1.s m σ H δ S _ S1 _ er sr q1 fun v m1 H1 e1 s1 r1 => ?_
    refine h2.s m1 σ H1 δ S1 _ S2 _ (er.ev e1) s1 q2 fun u m2 H2 e2 s2 r2 => ?_
    obtain ⟨pa, va, ea, ka, ra⟩ := rp_seqP (r1.ev e2) q3
    obtain ⟨pb, vb, eb, kb, rb⟩ := rp_seqP r2 q4
    subst ea; subst eb
    refine ⟨pa, pb, va, vb, rfl, .inl ⟨ka _ _ (.of .refl), kb _ _ (.of .refl), q _ m2 H2 (e1.trans e2) s2 fun m3 H3 S3 e3 s3 => ?_⟩⟩
    have hl := ra.length
    have hl2 := rb.length
    have hle := zipLD_len xs ys
    refine ⟨fun i hi => ?_, ⟨va, vb, ka _ _ e3, kb _ _ e3, by omega⟩, fun i d v H' hd y => ?_⟩
    · obtain ⟨x, hx⟩ := lt_get (l := va) (i := i) (by omega)
      obtain ⟨y, hy⟩ := lt_get (l := vb) (i := i) (by omega)
      exact ⟨va, vb, x, y, ka _ _ e3, kb _ _ e3, hx, hy⟩
    · obtain ⟨T, x, y, ev, hT, eH, y1, y2⟩ := y
      subst ev; subst eH
      obtain ⟨c', d', hc', hd', ed⟩ := zipLD_get _ _ _ _ hd
      subst ed
      obtain ⟨v1, hv1, rv1⟩ := ra.get hc'
      obtain ⟨v2, hv2, rv2⟩ := rb.get hd'
      have t1 := y1 va (ka _ _ e3)
      have t2 := y2 vb (kb _ _ e3)
      rw [hv1] at t1
      rw [hv2] at t2
      cases t1
      cases t2
      exact ⟨.lay hT, s3.lay hT, .tup (.of upd_same) (.cons ((rv1.evH e3).ev (.lay hT)) (.cons ((rv2.evH e3).ev (.lay hT)) .nil))⟩⟩
end
end Cb
namespace Cb
open PySem PySem.Spec PyProof.Rows L2

/-! ### sorted(list of texts) -/
def leS (a b : Str) : Bool := !ltCps b.cps.toList a.cps.toList
theorem leS_iff (a b : Str) : leS a b = true ↔ a.cps.toList ≤ b.cps.toList := by
  unfold leS
  rw [ltCps_eq]
  simp [List.not_lt]
theorem str_ext {a b : Str} (h : a.cps.toList = b.cps.toList) : a = b := by
  obtain ⟨a⟩ := a
  obtain ⟨b⟩ := b
  have : a = b := by
    apply Array.ext'
    exact h
  rw [this]
theorem leS_anti {a b : Str} (h1 : leS a b = true) (h2 : leS b a = true) : a = b := str_ext (List.le_antisymm ((leS_iff _ _).mp h1) ((leS_iff _ _).mp h2))
theorem leS_trans (a b c : Str) (h1 : leS a b = true) (h2 : leS b c = true) : leS a c = true := (leS_iff _ _).mpr (List.le_trans ((leS_iff _ _).mp h1) ((leS_iff _ _).mp h2))
theorem leS_total (a b : Str) : (leS a b || leS b a) = true := by
  rw [Bool.or_eq_true, leS_iff, leS_iff]
  exact List.le_total _ _
def sortS (l : List Str) : List Str := l.mergeSort leS
theorem sortS_perm (l : List Str) : (sortS l).Perm l := List.mergeSort_perm l leS
theorem sortS_pw (l : List Str) : (sortS l).Pairwise fun a b => leS a b = true := List.pairwise_mergeSort leS_trans leS_total l
theorem sortedS_pw : ∀ {l : List Str}, sortedS l = true → l.Pairwise fun a b => leS a b = true
  | [], _ => .nil
  | [x], _ => by simp
  | x :: y :: r, h => by
    have h : (leS x y && risingS y r) = true := h
    rw [Bool.and_eq_true] at h
    have ih := sortedS_pw (l := y :: r) h.2
    refine List.pairwise_cons.mpr ⟨fun z hz => ?_, ih⟩
    rcases List.mem_cons.mp hz with q | q
    · rw [q]; exact h.1
    · exact leS_trans x y z h.1 ((List.pairwise_cons.mp ih).1 z q)
theorem sortS_eq {l ys : List Str} (hp : ys.Perm l) (hs : sortedS ys = true) : ys = sortS l :=
  List.Perm.eq_of_pairwise (fun a b _ _ => leS_anti) (sortedS_pw hs) (sortS_pw l) (hp.trans (sortS_perm l).symm)
def strL : List D → Option (List Str)
  | [] => some []
  | .str x :: r => (strL r).bind fun l => some (x :: l)
  | _ :: _ => none
theorem strL_rp {K : PySem.W.Frag} {m : M} {H : Hp} : ∀ {vs : List V} {ds : List D} {xs : List Str}, RpAll K m H vs ds → strL ds = some xs → vs = xs.map V.str
  | _, _, _, .nil, h => by cases h; rfl
  | _, _, _, .cons (d := .str x) r rs, h => by
    unfold strL at h
    obtain ⟨l, h1, h⟩ := Option.bind_eq_some_iff.mp h
    cases h
    cases r
    rw [strL_rp rs h1]
    rfl
  | _, _, _, .cons (d := .non) r rs, h => by simp [strL] at h
  | _, _, _, .cons (d := .bl _) r rs, h => by simp [strL] at h
  | _, _, _, .cons (d := .int _) r rs, h => by simp [strL] at h
  | _, _, _, .cons (d := .tup _) r rs, h => by simp [strL] at h
  | _, _, _, .cons (d := .lst _) r rs, h => by simp [strL] at h
  | _, _, _, .cons (d := .scr _) r rs, h => by simp [strL] at h
  | _, _, _, .cons (d := .dic _) r rs, h => by simp [strL] at h
  | _, _, _, .cons (d := .ref _) r rs, h => by simp [strL] at h
section
variable {X : Cx} {C : Addr} {pos : Pos} {a b c e tg iter : Expr} {es : List Expr} {ta tb tc te : TE} {tA : TA} {fa fb fc f : E} {g : A}
def blSort : Bl := fun ds S => match ds with
  | [d] => (seqL S d).bind fun xs => (strL xs).bind fun l => if l.length < 64 then some ((sortS l).map .str) else none
  | _ => none
theorem s_sort {K : PySem.W.Frag} : ClSem C K (rSortedS K) blSort := fun m H xs ds S d Q r sr hf q => by
  unfold blSort at hf
  split at hf
  · obtain ⟨ys, h1, hf⟩ := Option.bind_eq_some_iff.mp hf
    obtain ⟨l, h2, hf⟩ := Option.bind_eq_some_iff.mp hf
    split at hf
    · rename_i h64
      cases hf
      cases r with
      | cons r1 rr =>
        cases rr
        obtain ⟨a, vs, e, h3, h4⟩ := rp_seqL sr r1 h1
        subst e
        have ev := strL_rp h4 h2
        subst ev
        exact ⟨a, l, rfl, h3, h64, fun zs p hz hs hp => by rw [sortS_eq hz hs]; exact q p _ hp (.strs _)⟩
    · cases hf
  · cases hf
theorem rl_sorted {p : Pos} (hg : Gl X "sorted") (hm : X.mg "sorted" = none) (ha : RA X C (e :: es) tA g) (he : starEach (e :: es) X.env = (false, eval e X.env) :: starEach es X.env := by rfl) (hpl : (backTo pos (starEach es X.env)).any (·.1) = false := by rfl) :
    RL X C (.Call (.Name "sorted" p) (e :: es) [] pos) (tCB (rSortedS X.K) tA) (lBi blSort g) := rl_callB cr_sortedS s_sort hg hm (by decide +kernel) ha (by decide) (by decide) he hpl
end
end Cb
namespace Cb
open PySem PySem.Spec PyProof.Rows L2

section
variable {X : Cx} {C : Addr} {pos : Pos} {a b c e tg iter : Expr} {es : List Expr} {ta tb tc te : TE} {tA : TA} {fa fb fc f : E} {g : A} {t1 : TS} {b1 : B}
/-! ### for, over a changing list as it stands at each turn -/
def forR (gd : G) (b : B) (k : Nat) : Nat → Nat → Sl → List O → Option Out
  | 0, _, _, _ => none
  | n + 1, i, δ, S => match S[k]? with
    | some (.lst xs) => match xs[i]? with
      | none => some (.nx δ S)
      | some d => (gd d δ).bind fun δ1 => (b δ1 S).bind fun o => match o with
        | .nx δ2 S2 => forR gd b k n (i + 1) δ2 S2
        | .ct δ2 S2 => forR gd b k n (i + 1) δ2 S2
        | .bk δ2 S2 => some (.nx δ2 S2)
        | .rt d S2 => some (.rt d S2)
    | _ => none
def sForR (f : E) (gd : G) (b : B) : B := fun δ S => (f δ S).bind fun p => match p.1 with | .ref k => forR gd b k big 0 δ p.2 | _ => none
theorem s_forR {K : PySem.W.Frag} {gt : TG} {gd : G} {vs : List Nat} (he : ESem C K te f) (hg : GSem C K gt gd vs) (hb : SSem C K t1 b1) : SSem C K (tFor (iList K te) gt t1) (sForR f gd b1) := fun m σ H δ S o Z er sr hf q => by
  unfold sForR at hf
  obtain ⟨⟨d1, S1⟩, q1, hf⟩ := Option.bind_eq_some_iff.mp hf
  split at hf
  · rename_i k hk
    have hk : d1 = .ref k := hk
    subst hk
    refine he m σ H δ S _ S1 _ er sr q1 fun v m1 H1 e1 s1 r1 => ?_
    cases r1 with
    | @ref p _ hn =>
      have hS1 : ∃ ds, S1[k]? = some (.lst ds) := by
        unfold big at hf
        unfold forR at hf
        split at hf
        · rename_i xs hx; exact ⟨xs, hx⟩
        · cases hf
      obtain ⟨ds1, hd1⟩ := hS1
      obtain ⟨ys1, hy1, _⟩ := s1.obj _ _ _ hn hd1
      refine ⟨p, rfl, ⟨ys1, .of hy1⟩, ?_⟩
      refine ⟨fun i n σc Hc => ∃ mc δc Sc, Ev m1 H1 mc Hc ∧ ER K mc Hc σc δc ∧ SR C K mc Hc Sc ∧ mc.l[k]? = some p ∧ forR gd b1 k n i δc Sc = some o, ⟨big, m1, δ, S1, .refl, er.ev e1, s1, hn, hf⟩, ?_⟩
      rintro i n σc Hc ⟨mc, δc, Sc, ec, erc, sc, hp, hl⟩
      cases n with
      | zero => cases hl
      | succ n =>
        unfold forR at hl
        split at hl
        · rename_i xs hx
          obtain ⟨ys, hy, ry⟩ := sc.obj _ _ _ hp hx
          have hlen := ry.length
          split at hl
          · rename_i hnone
            cases hl
            have := List.getElem?_eq_none_iff.mp hnone
            exact .inl ⟨⟨ys, .of hy, by omega⟩, q mc σc Hc (e1.trans ec) erc sc⟩
          · rename_i d hd
            obtain ⟨v, hv, rv⟩ := ry.get hd
            obtain ⟨δ1, g1, hl⟩ := Option.bind_eq_some_iff.mp hl
            obtain ⟨o1, c1, hl⟩ := Option.bind_eq_some_iff.mp hl
            refine .inr ⟨⟨ys, v, .of hy, hv⟩, fun σ' H' => ∃ mc δc Sc, Ev m1 H1 mc H' ∧ ER K mc H' σ' δc ∧ SR C K mc H' Sc ∧ mc.l[k]? = some p ∧ forR gd b1 k n (i + 1) δc Sc = some o, fun σ' H' h => ⟨n, Nat.lt_succ_self _, h⟩, fun x Hx y => ?_⟩
            obtain ⟨ey, y2⟩ := y
            subst ey
            have := y2 ys (.of hy)
            rw [hv] at this
            cases this
            refine hg mc σc _ δc Sc v d δ1 _ erc sc rv g1 fun σ1 er1 _ => ?_
            refine hb mc σ1 _ δ1 Sc o1 _ er1 sc c1 ?_
            cases o1 with
            | nx δ2 S2 => exact fun m2 σ2 H2 e2 er2 s2 => ⟨m2, δ2, S2, ec.trans e2, er2, s2, e2.at hp, hl⟩
            | ct δ2 S2 => exact fun m2 σ2 H2 e2 er2 s2 => ⟨m2, δ2, S2, ec.trans e2, er2, s2, e2.at hp, hl⟩
            | bk δ2 S2 => cases hl; exact fun m2 σ2 H2 e2 er2 s2 => q m2 σ2 H2 (e1.trans (ec.trans e2)) er2 s2
            | rt d S2 => cases hl; exact fun v m2 H2 e2 s2 r2 => q v m2 H2 (e1.trans (ec.trans e2)) s2 r2
        · cases hl
  · cases hf
theorem rs_forR {body : List Stmt} {gt : TG} {gd : G} {vs : List Nat} (hp : PassesOwn (model X.prog X.w) X.A X.env X.xe) (hc : X.calm = true) (hi : RE X C iter te f) (hg : RG X C tg gt gd vs) (hb : RSs X C body t1 b1)
    (hs : ∀ x, foldedSetIterable iter X.env x = pure x := by intro _; rfl) : RS X C (.For tg iter body [] pos) (tFor (iList X.K te) gt t1) (sForR f gd b1) := ⟨ps_for hp hc (pi_list hi.p) hg.p hb.p hs, s_forR hi.s hg.s hb.s⟩
/-! ### over a list that never changes, or a tuple -/
def iBoth (K : PySem.W.Frag) (tl : TE) : TI := fun σ H R => tl σ H fun x H1 => ∃ a, x = .ref a ∧ (((∃ xs, SqL K H1 a xs) ∧ R (Itl K a) H1) ∨ ((∃ xs, SqT K H1 a xs) ∧ R (Itt K a) H1))
theorem pi_both {l : Expr} {tl : TE} (hl : PE X l tl) : PI X tg l (iBoth X.K tl) := by
  refine ⟨fun pins s σ H R I h => ?_⟩
  refine thn (hl.run pins s σ H _ I h) fun v s1 ⟨x, H1, I1, r1, q1⟩ => ?_
  obtain ⟨a, e, q⟩ := q1
  subst e
  cases r1
  rcases q with ⟨⟨xs, hq⟩, q⟩ | ⟨⟨xs, hq⟩, q⟩
  · obtain ⟨its, rv, p, hz⟩ := I1.list hq
    refine wpAny_pyIter_list p.isList ?_
    refine ⟨s1.heap.objs.size, [s1.heap.objs.size], _, _, H1, rfl, I1.kept (t' := s1.toks) fun b o e => Heap.get?_push_of_some _ e, turn_list a _, ⟨_, Heap.get?_push_size _ rfl, rfl, rfl⟩, fun b hb => ?_, q⟩
    have e : b = s1.heap.objs.size := by simpa using hb
    subst e
    exact I1.fpOk (Nat.le_refl _) (I1.hok.fresh (Nat.le_refl _))
  · obtain ⟨its, rv, p, hz⟩ := I1.tuple hq
    refine wpAny_pyIter_tuple (show s1.heap.IsTuple a its.toArray from p) ?_
    refine ⟨s1.heap.objs.size, [s1.heap.objs.size], _, _, H1, rfl, I1.kept (t' := s1.toks) fun b o e => Heap.get?_push_of_some _ e, turn_tuple a _, ⟨_, Heap.get?_push_size _ rfl, rfl, rfl⟩, fun b hb => ?_, q⟩
    have e : b = s1.heap.objs.size := by simpa using hb
    subst e
    exact I1.fpOk (Nat.le_refl _) (I1.hok.fresh (Nat.le_refl _))
def seqB : D → Option (List D)
  | .tup xs => some xs
  | d => seqP d
def iBothD (f : E) : A := fun δ S => (f δ S).bind fun p => (seqB p.1).bind fun ds => some (ds, p.2)
theorem ri_both (he : RE X C e te f) : RI X C tg e (iBoth X.K te) (iBothD f) := ⟨pi_both he.p, fun m σ H δ S items S' R er sr hf q => by
  unfold iBothD at hf
  obtain ⟨⟨d1, S1⟩, q1, hf⟩ := Option.bind_eq_some_iff.mp hf
  obtain ⟨ds, q2, hf⟩ := Option.bind_eq_some_iff.mp hf
  cases hf
  refine he.s m σ H δ S d1 S1 _ er sr q1 fun v m1 H1 e1 s1 r1 => ?_
  by_cases ht : ∃ xs, d1 = .tup xs
  · obtain ⟨zs, rfl⟩ := ht
    have q3 : zs = items := Option.some.inj q2
    subst q3
    cases r1 with
    | @tup a xs _ h4 h5 =>
      refine ⟨a, rfl, .inr ⟨⟨xs, h4⟩, q _ m1 H1 e1 s1 fun m2 H2 S2 e2 s2 => ?_⟩⟩
      have hl := h5.length
      refine ⟨fun i hi => ?_, ⟨xs, e2.ev.sqT h4, by omega⟩, fun i d x H' hd y => ?_⟩
      · obtain ⟨x, hx⟩ := lt_get (l := xs) (i := i) (by omega)
        exact ⟨xs, x, e2.ev.sqT h4, hx⟩
      · obtain ⟨ey, y2⟩ := y
        subst ey
        obtain ⟨v, hv, rv⟩ := h5.get hd
        have := y2 xs (e2.ev.sqT h4)
        rw [hv] at this
        cases this
        exact ⟨.refl, s2, rv.evH e2⟩
  · have q2 : seqP d1 = some items := by
      cases d1 with
      | tup xs => exact absurd ⟨xs, rfl⟩ ht
      | _ => exact q2
    obtain ⟨a, xs, ee, h4, h5⟩ := rp_seqP r1 q2
    subst ee
    refine ⟨a, rfl, .inl ⟨⟨xs, h4 _ _ (.of .refl)⟩, q _ m1 H1 e1 s1 fun m2 H2 S2 e2 s2 => ?_⟩⟩
    have hl := h5.length
    refine ⟨fun i hi => ?_, ⟨xs, h4 _ _ e2, by omega⟩, fun i d x H' hd y => ?_⟩
    · obtain ⟨x, hx⟩ := lt_get (l := xs) (i := i) (by omega)
      exact ⟨xs, x, h4 _ _ e2, hx⟩
    · obtain ⟨ey, y2⟩ := y
      subst ey
      obtain ⟨v, hv, rv⟩ := h5.get hd
      have := y2 xs (h4 _ _ e2)
      rw [hv] at this
      cases this
      exact ⟨.refl, s2, rv.evH e2⟩⟩
end
end Cb
namespace Cb
open PySem PySem.Spec PyProof.Rows L2

/-! ## instances of a class of the program -/
def putFD (f : Str) (v : D) : List (Str × D) → List (Str × D)
  | [] => [(f, v)]
  | (g, x) :: r => if g = f then (g, v) :: r else (g, x) :: putFD f v r
theorem put_keys {gs : List (Str × V)} {f : Str} {v : V} {d : D} : ∀ {fs : List (Str × D)}, gs.map (·.1) = fs.map (·.1) → (putF f v gs).map (·.1) = (putFD f d fs).map (·.1) := by
  induction gs with
  | nil =>
    intro fs h
    cases fs with
    | nil => rfl
    | cons _ _ => simp at h
  | cons g gs ih =>
    intro fs h
    cases fs with
    | nil => simp at h
    | cons h' fs =>
      obtain ⟨a, x⟩ := g
      obtain ⟨b, y⟩ := h'
      simp only [List.map_cons, List.cons.injEq] at h
      obtain ⟨h1, h2⟩ := h
      have h1 : a = b := h1
      subst h1
      simp only [putF, putFD]
      split
      · simp [h2]
      · simp [ih h2]
theorem put_vals {K : PySem.W.Frag} {m : M} {H : Hp} {f : Str} {v : V} {d : D} (r : Rp K m H v d) : ∀ {gs : List (Str × V)} {fs : List (Str × D)}, gs.map (·.1) = fs.map (·.1) → RpAll K m H (gs.map (·.2)) (fs.map (·.2)) → RpAll K m H ((putF f v gs).map (·.2)) ((putFD f d fs).map (·.2))
  | [], [], _, _ => .cons r .nil
  | [], _ :: _, h, _ => by simp at h
  | _ :: _, [], h, _ => by simp at h
  | (a, x) :: gs, (b, y) :: fs, h, q => by
    simp only [List.map_cons, List.cons.injEq] at h
    obtain ⟨h1, h2⟩ := h
    have h1 : a = b := h1
    subst h1
    cases q with
    | cons q1 q2 =>
      simp only [putF, putFD]
      split
      · exact .cons r q2
      · exact .cons q1 (put_vals r h2 q2)
theorem lookup_vals {K : PySem.W.Frag} {m : M} {H : Hp} {f : Str} : ∀ {gs : List (Str × V)} {fs : List (Str × D)}, gs.map (·.1) = fs.map (·.1) → RpAll K m H (gs.map (·.2)) (fs.map (·.2)) →
    (fs.lookup f = none → gs.lookup f = none) ∧ ∀ d, fs.lookup f = some d → ∃ v, gs.lookup f = some v ∧ Rp K m H v d
  | [], [], _, _ => ⟨fun _ => rfl, fun d h => by simp at h⟩
  | [], _ :: _, h, _ => by simp at h
  | _ :: _, [], h, _ => by simp at h
  | (a, x) :: gs, (b, y) :: fs, h, q => by
    simp only [List.map_cons, List.cons.injEq] at h
    obtain ⟨h1, h2⟩ := h
    have h1 : a = b := h1
    subst h1
    cases q with
    | cons q1 q2 =>
      obtain ⟨i1, i2⟩ := lookup_vals (f := f) h2 q2
      simp only [List.lookup_cons]
      cases hb : f == a with
      | true => exact ⟨(fun z => nomatch z), fun d hd => by cases hd; exact ⟨x, rfl, q1⟩⟩
      | false => exact ⟨i1, i2⟩
def insS (S : List O) : D → Option (List (Str × D))
  | .ref n => match S[n]? with | some (.ins fs) => some fs | _ => none
  | _ => none
theorem rp_ins {C : Addr} {K : PySem.W.Frag} {m : M} {H : Hp} {S : List O} {v : V} {d : D} {fs : List (Str × D)} (s : SR C K m H S) (r : Rp K m H v d) (h : insS S d = some fs) :
    ∃ n a dx gs, d = .ref n ∧ S[n]? = some (.ins fs) ∧ m.l[n]? = some a ∧ v = .ref a ∧ H a = some (.ins C dx gs) ∧ gs.map (·.1) = fs.map (·.1) ∧ RpAll K m H (gs.map (·.2)) (fs.map (·.2)) := by
  cases r with
  | @ref a n hn =>
    have h : (match S[n]? with | some (O.ins fs) => some fs | _ => none) = some fs := h
    split at h
    · rename_i xs hs
      cases h
      obtain ⟨dx, gs, h1, h2, h3⟩ := s.obj _ _ _ hn hs
      exact ⟨n, a, dx, gs, rfl, hs, hn, rfl, h1, h2, h3⟩
    · cases h
  | _ => cases h
section
variable {X : Cx} {C : Addr} {pos : Pos} {a b c e tg iter : Expr} {es : List Expr} {ta tb tc te : TE} {tA : TA} {fa fb fc f : E} {g : A}
/-- o.f -/
def eFld (nm : Str) (fo : E) : E := fun δ S => (fo δ S).bind fun o => (insS o.2 o.1).bind fun fs => (fs.lookup nm).bind fun d => some (d, o.2)
theorem re_fld {nm : Str} (cl : Cls X.K C) (n : NoAttr X.K C nm) (he : RE X C e te f) (hb : attributeBase e nm X.env (eval e X.env) = eval e X.env := by rfl) : RE X C (.Attribute e nm pos) (tFld X.K te nm) (eFld nm f) :=
  ⟨pe_fld he.p hb, fun m σ H δ S d S' Q er sr hf q => by
    unfold eFld at hf
    obtain ⟨⟨d1, S1⟩, q1, hf⟩ := Option.bind_eq_some_iff.mp hf
    obtain ⟨fs, q2, hf⟩ := Option.bind_eq_some_iff.mp hf
    obtain ⟨d2, q3, hf⟩ := Option.bind_eq_some_iff.mp hf
    cases hf
    refine he.s m σ H δ S d1 S1 _ er sr q1 fun v m1 H1 e1 s1 r1 => ?_
    obtain ⟨n', a', dx, gs, _, _, _, ev, h1, h2, h3⟩ := rp_ins s1 r1 q2
    subst ev
    obtain ⟨v, h4, h5⟩ := (lookup_vals (f := nm) h2 h3).2 _ q3
    exact ⟨a', C, dx, gs, v, rfl, h1, cl, n, h4, q v m1 H1 e1 s1 h5⟩⟩
/-- o.f = e -/
def sFldS (nm : Str) (fv fo : E) : B := fun δ S => (fv δ S).bind fun v => (fo δ v.2).bind fun o => (setO o.2 o.1 fun ob => match ob with | .ins fs => if fs.length < 1000 then some (.ins (putFD nm v.1 fs)) else none | _ => none).bind fun S' => some (.nx δ S')
theorem rs_fld {nm : Str} {pos' : Pos} (cl : Cls X.K C) (n : NoAttr X.K C nm) (hv : RE X C e te f) (ho : RE X C a ta fa) (hs : swapsWith e (some (.Attribute a nm pos')) pos.line X.env = pure false := by rfl) :
    RS X C (.Assign [.Attribute a nm pos'] e pos) (sFld X.K ta te nm) (sFldS nm f fa) := ⟨ps_fld ho.p hv.p hs, fun m σ H δ S o Z er sr hf q => by
  unfold sFldS at hf
  obtain ⟨⟨d1, S1⟩, q1, hf⟩ := Option.bind_eq_some_iff.mp hf
  obtain ⟨⟨d2, S2⟩, q2, hf⟩ := Option.bind_eq_some_iff.mp hf
  obtain ⟨S3, q3, hf⟩ := Option.bind_eq_some_iff.mp hf
  cases hf
  refine hv.s m σ H δ S d1 S1 _ er sr q1 fun v m1 H1 e1 s1 r1 => ?_
  refine ho.s m1 σ H1 δ S1 d2 S2 _ (er.ev e1) s1 q2 fun u m2 H2 e2 s2 r2 => ?_
  obtain ⟨n', ob, ob', ed, q5, q6, eS⟩ := setO_inv q3
  have ed : d2 = .ref n' := ed
  subst ed
  subst eS
  dsimp only at q6
  split at q6
  · split at q6
    · rename_i fs hl
      cases q6
      have hi : insS S2 (.ref n') = some fs := by
        have q5 : S2[n']? = some (O.ins fs) := q5
        show (match S2[n']? with | some (O.ins fs) => some fs | _ => none) = some fs
        rw [q5]
      obtain ⟨n2, p, dx, gs, en, _, hn, ev, h1, h2, h3⟩ := rp_ins s2 r2 hi
      cases en
      subst ev
      obtain ⟨_, hu, ht, hf⟩ := s2.nottup (List.mem_of_getElem? hn)
      have es : Ev m2 H2 m2 (upd H2 p (.ins C dx (putF nm v gs))) := .set (List.mem_of_getElem? hn) hu ht hf
      have hlen : gs.length = fs.length := by simpa using congrArg List.length h2
      refine ⟨p, C, dx, gs, rfl, h1, cl, n, by rw [hlen]; exact hl, ?_⟩
      exact q m2 σ _ (e1.trans (e2.trans es)) (er.ev (e1.trans (e2.trans es))) (s2.put hn ⟨dx, _, upd_same, put_keys h2, (put_vals (r1.ev e2) h2 h3).ev es⟩)
    · cases q6
  · cases q6⟩
/-- a method of the class: at its promise -/
structure CalM (P : Program) (w : World) (K : PySem.W.Frag) (mg : Str → Option Value) (base : Heap) (C : Addr) (k : Nat) (x : Str) (n : Nat) (F : Fn) : Prop where
  ex : ∃ (f : Addr) (fd : FuncData) (ps : List Str), FnOk P w K mg base CX0 k f fd ps (spF C K n F) ∧ Binds K fd ps [] ∧ Meth K C x f
/-- the making: never, or with room for it -/
structure CalI (P : Program) (w : World) (K : PySem.W.Frag) (mg : Str → Option Value) (base : Heap) (C : Addr) (k : Nat) (F : Fn) : Prop where
  ex : (F = fun _ _ => none) ∨ ∃ (j : Nat) (f : Addr) (fd : FuncData) (ps : List Str), j + 1 ≤ k ∧ FnOk P w K mg base CX0 j f fd ps (spF C K 1 F) ∧ Binds K fd ps [] ∧ Mk K C f
/-- o.m(..) -/
def eMeth (mt : Str) (n : Nat) (F : Fn) (fo : E) (g : A) : E := fun δ S => (fo δ S).bind fun o => (insS o.2 o.1).bind fun fs => if fs.lookup mt = none then (g δ o.2).bind fun p => if p.1.length + 1 = n then F (o.1 :: p.1) p.2 else none else none
theorem re_meth {pl : Sem Bool} {k n : Nat} {mt : Str} {F : Fn} {apos : Pos} (cl : Cls X.K C) (cal : CalM X.prog X.w X.K X.mg X.base C k mt n F) (hr : Room k X.A) (ho : RE X C a ta fa) (ha : RA X C (e :: es) tA g)
    (hst : starEach (e :: es) X.env = (false, eval e X.env) :: starEach es X.env := by rfl) (hpl : (backTo pos (starEach es X.env)).any (·.1) = false := by rfl)
    (ht : eval (.Call (.Attribute a mt apos) (e :: es) [] pos) X.env = (do
      let ov ← eval a X.env
      standAt apos.atName
      let (f, first) ← holding [ov] (getMethod ov mt pl)
      callWith pos f first (backTo pos (starEach (e :: es) X.env)) (backToKw pos (keywordEach [] X.env))) := by rfl) :
    RE X C (.Call (.Attribute a mt apos) (e :: es) [] pos) (tMeth C mt (spF C X.K n F) [] E0 ta tA) (eMeth mt n F fa g) := by
  obtain ⟨f, fd, ps, F', bd, hm⟩ := cal.ex
  refine ⟨pe_meth (pl := pl) ho.p cl hm F' hr bd .nil pass0 ha.p hst hpl ht, fun m σ H δ S d S' Q er sr hf q => ?_⟩
  unfold eMeth at hf
  obtain ⟨⟨d1, S1⟩, q1, hf⟩ := Option.bind_eq_some_iff.mp hf
  obtain ⟨fs, q2, hf⟩ := Option.bind_eq_some_iff.mp hf
  split at hf
  · rename_i hlk
    obtain ⟨⟨ds, S2⟩, q3, hf⟩ := Option.bind_eq_some_iff.mp hf
    split at hf
    · rename_i hl
      refine ho.s m σ H δ S d1 S1 _ er sr q1 fun v m1 H1 e1 s1 r1 => ?_
      obtain ⟨n', a', dx, gs, _, _, _, ev, h1, h2, h3⟩ := rp_ins s1 r1 q2
      have h4 := (lookup_vals (f := mt) h2 h3).1 hlk
      refine ⟨a', dx, gs, ev, h1, h4, ?_⟩
      refine ha.s m1 σ H1 δ S1 ds S2 _ (er.ev e1) s1 q3 fun vs m2 H2 e2 s2 r2 => ?_
      rw [List.append_nil]
      refine ⟨by rw [List.length_cons, r2.length]; exact hl, m2, S2, d1 :: ds, d, S', .cons (r1.ev e2) r2, s2, hf, fun v m3 H3 e3 s3 r3 => q v m3 H3 (e1.trans (e2.trans e3)) s3 r3⟩
    · cases hf
  · cases hf
/-- C(): a new instance -/
def eFresh (F : Fn) : E := fun _ S => (F [.ref S.length] (S ++ [.ins []])).bind fun p => match p.1 with | .non => some (.ref S.length, p.2) | _ => none
theorem re_fresh {k : Nat} {x : Str} {F : Fn} {p : Pos} (cal : CalI X.prog X.w X.K X.mg X.base C k F) (hr : Room k X.A) (hg : Gl X x) (hm : X.mg x = some (.ref C)) (hdb : (x == ("__debug__" : Str)) = false := by decide) :
    RE X C (.Call (.Name x p) [] [] pos) (cE C X.K (eFresh F)) (eFresh F) := by
  refine ⟨?_, fun m σ H δ S d S' Q er sr hf q => ⟨m, δ, S, d, S', er, sr, hf, q⟩⟩
  rcases cal.ex with h | ⟨j, f, fd, ps, hj, F', bd, mk⟩
  · refine ⟨fun pins s σ H Q I ⟨m, δ, S, d, S', er, sr, hf, q⟩ => ?_⟩
    subst h
    cases hf
  · have pe := pe_make0 (pos := pos) (p := p) mk F' (hr.mono hj) hg hm bd .nil pass0 hdb
    refine ⟨fun pins s σ H Q I ⟨m, δ, S, d, S', er, sr, hf, q⟩ => pe.run pins s σ H Q I ?_⟩
    unfold eFresh at hf
    obtain ⟨⟨d1, S1⟩, q1, hf⟩ := Option.bind_eq_some_iff.mp hf
    split at hf
    · rename_i hk
      have hk : d1 = .non := hk
      subst hk
      cases hf
      show ∀ x dx, H x = none → H dx = none → dx ≠ x → _
      intro x dx hx hdx hne
      have hx1 : upd H dx (.own x) x = none := by rw [upd_ne (fun z => hne z.symm)]; exact hx
      have e1 : Ev m H m (upd H dx (.own x)) := .lay hdx
      have s1 := sr.lay (o := .own x) hdx
      have e2 : Ev m (upd H dx (.own x)) (m.add x) (upd (upd H dx (.own x)) x (.ins C dx [])) := .layM hx1
      have s2 : SR C X.K (m.add x) (upd (upd H dx (.own x)) x (.ins C dx [])) (S ++ [.ins []]) := s1.layM hx1 ⟨dx, [], upd_same, rfl, .nil⟩
      have hat : (m.add x).l[S.length]? = some x := by
        have : m.l.length = S.length := sr.len
        rw [← this]
        exact at_snoc
      refine ⟨rfl, m.add x, S ++ [.ins []], [.ref S.length], .non, _, .cons (.ref hat) .nil, s2, q1, fun v m' H' e' s' r' => ?_⟩
      cases r'
      exact ⟨rfl, q _ m' H' (e1.trans (e2.trans e')) s' (Rp.ev e' (.ref hat))⟩
    · cases hf
end
end Cb
namespace Cb
open PySem L2
section
variable {C : Addr} {K : PySem.W.Frag}
/-! ## all(list of bools), sum(list of ints) -/
def blsD : List D → Option (List Bool)
  | [] => some []
  | .bl b :: ds => (blsD ds).map (b :: ·)
  | _ => none
theorem rp_bls {m : M} {H : Hp} : ∀ {ds : List D} {bs : List Bool} {vs : List V}, blsD ds = some bs → RpAll K m H vs ds → vs = bs.map V.bl
  | [], _, _, h, .nil => by cases h; rfl
  | d :: ds, bs, _, h, .cons r rs => by
    cases d with
    | bl b =>
      obtain ⟨bs', h1, h2⟩ := Option.map_eq_some_iff.mp h
      subst h2
      cases r
      rw [rp_bls h1 rs]
      rfl
    | _ => cases h
def bAll : Bi := fun ds S => match ds with
  | [d] => (seqL S d).bind fun xs => (blsD xs).bind fun bs => some (.bl (bs.all id))
  | _ => none
theorem s_all : CSem C K (rAll K) bAll := fun m H xs ds S d Q r sr hf q => by
  unfold bAll at hf
  split at hf
  · obtain ⟨ys, h1, h2⟩ := Option.bind_eq_some_iff.mp hf
    obtain ⟨bs, h3, h2⟩ := Option.bind_eq_some_iff.mp h2
    cases h2
    cases r with
    | cons r1 rr =>
      cases rr
      obtain ⟨a, zs, ee, h4, h5⟩ := rp_seqL sr r1 h1
      subst ee
      rw [rp_bls h3 h5] at h4
      exact ⟨_, _, rfl, h4, q _ m H .refl sr (.bl _)⟩
  · cases hf
def intsD : List D → Option (List Int)
  | [] => some []
  | .int b :: ds => (intsD ds).map (b :: ·)
  | _ => none
theorem rp_ints {m : M} {H : Hp} : ∀ {ds : List D} {bs : List Int} {vs : List V}, intsD ds = some bs → RpAll K m H vs ds → vs = bs.map V.int
  | [], _, _, h, .nil => by cases h; rfl
  | d :: ds, bs, _, h, .cons r rs => by
    cases d with
    | int b =>
      obtain ⟨bs', h1, h2⟩ := Option.map_eq_some_iff.mp h
      subst h2
      cases r
      rw [rp_ints h1 rs]
      rfl
    | _ => cases h
def bSum : Bi := fun ds S => match ds with
  | [d] => (seqL S d).bind fun xs => (intsD xs).bind fun bs => some (.int bs.sum)
  | _ => none
theorem s_sum : CSem C K (rSum K) bSum := fun m H xs ds S d Q r sr hf q => by
  unfold bSum at hf
  split at hf
  · obtain ⟨ys, h1, h2⟩ := Option.bind_eq_some_iff.mp hf
    obtain ⟨bs, h3, h2⟩ := Option.bind_eq_some_iff.mp h2
    cases h2
    cases r with
    | cons r1 rr =>
      cases rr
      obtain ⟨a, zs, ee, h4, h5⟩ := rp_seqL sr r1 h1
      subst ee
      rw [rp_ints h3 h5] at h4
      exact ⟨_, _, rfl, h4, q _ m H .refl sr (.int _)⟩
  · cases hf
/-! ## xs.pop() -/
def lastD (S : List O) : D → Option D
  | .ref n => match S[n]? with
    | some (.lst xs) => xs[xs.length - 1]?
    | _ => none
  | _ => none
def kPop (o : D) (S : List O) : Option (D × List O) := (lastD S o).bind fun d => (setO S o fun ob => match ob with | .lst xs => some (.lst xs.dropLast) | _ => none).bind fun S' => some (d, S')
theorem RpAll.dropLast {m : M} {H : Hp} {vs : List V} {ds : List D} (r : RpAll K m H vs ds) : RpAll K m H vs.dropLast ds.dropLast := by
  rw [List.dropLast_eq_take, List.dropLast_eq_take, r.length]
  exact r.take _
theorem re_pop {X : Cx} {a : Expr} {pos apos : Pos} {ta : TE} {fa : E} (pe : PE X a ta → PE X (.Call (.Attribute a "pop" apos) [] [] pos) (tBM0 X.K "list" rPop ta)) (ho : RE X C a ta fa) : RE X C (.Call (.Attribute a "pop" apos) [] [] pos) (tBM0 X.K "list" rPop ta) (eMeth0 kPop fa) :=
  ⟨pe ho.p, fun m σ H δ S d S' Q er sr hf q => by
    unfold eMeth0 at hf
    obtain ⟨⟨d1, S1⟩, q1, hf⟩ := Option.bind_eq_some_iff.mp hf
    split at hf
    · rename_i hl
      unfold kPop at hf
      obtain ⟨dl, q2, hf⟩ := Option.bind_eq_some_iff.mp hf
      obtain ⟨S3, q4, hf⟩ := Option.bind_eq_some_iff.mp hf
      cases hf
      refine ho.s m σ H δ S d1 S1 _ er sr q1 fun v m1 H1 e1 s1 r1 => ⟨tyV_isLst s1 r1 hl, ?_⟩
      obtain ⟨n, ob, ob', ed, q5, q6, eS⟩ := setO_inv q4
      have ed : d1 = .ref n := ed
      subst ed
      subst eS
      split at q6
      · cases q6
        cases r1 with
        | @ref p _ hn =>
          obtain ⟨xs, h1, h2⟩ := s1.obj _ _ _ hn q5
          obtain ⟨_, hu, ht, hf⟩ := s1.nottup (List.mem_of_getElem? hn)
          have es : Ev m1 H1 m1 (upd H1 p (.lst xs.dropLast)) := .set (List.mem_of_getElem? hn) hu ht hf
          simp only [lastD, q5] at q2
          obtain ⟨y, h3, h4⟩ := h2.get q2
          rw [← h2.length] at h3
          refine ⟨_, _, _, rfl, rfl, h1, h3, ?_⟩
          exact q _ m1 _ (e1.trans es) (s1.put hn ⟨_, upd_same, h2.dropLast.ev es⟩) (h4.ev es)
      · cases q6
    · cases hf⟩
/-! ## list + list: a new list -/
def lAdd (f1 f2 : E) : A := fun δ S => (f1 δ S).bind fun p => (f2 δ p.2).bind fun q => (seqM q.2 p.1).bind fun xs => (seqM q.2 q.1).bind fun ys => if xs.length + ys.length ≤ sizeLine then some (xs ++ ys, q.2) else none
theorem rl_add {X : Cx} {a b : Expr} {pos : Pos} {ta tb : TE} {fa fb : E} (ha : RE X C a ta fa) (hb : RE X C b tb fb) : RL X C (.BinOp a .Add b pos) (tOp (rAddX X.K) ta tb) (lAdd fa fb) :=
  ⟨pe_op op_addX ha.p hb.p, fun m σ H δ S ds S' Q er sr hf q => by
    unfold lAdd at hf
    obtain ⟨⟨d1, S1⟩, q1, hf⟩ := Option.bind_eq_some_iff.mp hf
    obtain ⟨⟨d2, S2⟩, q2, hf⟩ := Option.bind_eq_some_iff.mp hf
    obtain ⟨xs, q3, hf⟩ := Option.bind_eq_some_iff.mp hf
    obtain ⟨ys, q4, hf⟩ := Option.bind_eq_some_iff.mp hf
    split at hf
    · rename_i hl
      cases hf
      refine ha.s m σ H δ S d1 S1 _ er sr q1 fun v m1 H1 e1 s1 r1 => ?_
      refine hb.s m1 σ H1 δ S1 d2 S2 _ (er.ev e1) s1 q2 fun u m2 H2 e2 s2 r2 => ?_
      obtain ⟨a1, vs, ee, h1, h2⟩ := rp_seqM s2 (r1.ev e2) q3
      subst ee
      obtain ⟨a2, us, ee, h3, h4⟩ := rp_seqM s2 r2 q4
      subst ee
      have e := e1.trans e2
      refine .inr (.inr (.inr ⟨_, _, _, _, rfl, rfl, h1, h3, by rw [h2.length, h4.length]; exact hl, fun p hp => ?_⟩))
      exact q p _ m2 _ (e.trans (.lay hp)) (e.free s2 hp) upd_same (s2.hideLay hp) ((h2.append h4).hide hp (.lay hp))
    · cases hf⟩
end
end Cb
namespace Cb
open PySem PySem.Spec PyProof.Rows L2
section
variable {X : Cx} {C : Addr} {pos : Pos} {a b e : Expr} {es : List Expr} {ta tb te : TE} {tA : TA} {fa fb f : E} {g : A}
/-! ## a tuple that surely has no dict -/
def tTupN (t : TA) : TE := fun σ H Q => t σ H fun xs H1 => xs.length ≤ sizeLine ∧ ∀ (p : Addr) (ob : Obj), H1 p = none → ob.dict = none → ob.cls = .type "tuple" → Q (.ref p) (upd H1 p (.frz ob (.tup xs)))
theorem pe_tupN {x1} {t : TA} (h : PA X es t) : PE X (.Tuple es x1 pos) (tTupN t) := by
  refine ⟨fun pins s σ H Q I hq => ?_⟩
  refine wpAny_Tuple_spliced (thn (h.run pos pins s σ H _ I hq) fun us s1 ⟨xs, H1, I1, r, z, q⟩ => ⟨by rw [← r.length]; exact z, ?_⟩)
  have hf : H1 s1.heap.objs.size = none := I1.hok.fresh (Nat.le_refl _)
  refine ⟨.ref s1.heap.objs.size, upd H1 s1.heap.objs.size (.frz { cls := .type "tuple", data := .seq us.toArray } (.tup xs)), I1.laid (t' := s1.toks) (fun b u e => Heap.get?_push_of_some _ e) (Nat.le_refl _) ?_, rfl, q _ _ hf rfl rfl⟩
  exact ⟨Heap.get?_push_size _ rfl, z, us, r, ⟨_, Heap.get?_push_size _ rfl, rfl, _, rfl⟩⟩
def eTupN (g : A) : E := fun δ S => (g δ S).bind fun p => if p.1.length ≤ 1000 then some (.tun p.1, p.2) else none
theorem re_tupN {x1} (h : RA X C es tA g) : RE X C (.Tuple es x1 pos) (tTupN tA) (eTupN g) :=
  ⟨pe_tupN h.p, fun m σ H δ S d S' Q er sr hf q => by
    unfold eTupN at hf
    obtain ⟨⟨ds, S1⟩, h1, h2⟩ := Option.bind_eq_some_iff.mp hf
    split at h2
    · rename_i hl
      cases h2
      refine h.s m σ H δ S _ _ _ er sr h1 fun vs m1 H1 e1 s1 r1 => ?_
      refine ⟨le_size (by rw [r1.length]; exact hl), fun p ob hp hd hc => ?_⟩
      exact q _ m1 _ (e1.trans (.lay hp)) (s1.lay hp) (.tun upd_same hd hc (r1.ev (.lay hp)))
    · cases h2⟩
def wk : D → D
  | .tun xs => .tup xs
  | d => d
theorem Rp.wk {K : PySem.W.Frag} {m : M} {H : Hp} {v : V} {d : D} (r : Rp K m H v d) : Rp K m H v (wk d) := by
  cases r with
  | tun h h1 h2 r => exact .tup (.inl (.inr ⟨_, h⟩)) r
  | non => exact .non
  | bl => exact .bl _
  | int => exact .int _
  | str => exact .str _
  | tup h r => exact .tup h r
  | lst h n r => exact .lst h n r
  | scr h => exact .scr h
  | dic h n k r => exact .dic h n k r
  | ref h => exact .ref h
  | fn h => exact .fn h
def eWk (f : E) : E := fun δ S => (f δ S).bind fun p => some (wk p.1, p.2)
theorem re_wk (h : RE X C e te f) : RE X C e te (eWk f) :=
  ⟨h.p, fun m σ H δ S d S' Q er sr hf q => by
    unfold eWk at hf
    obtain ⟨⟨d1, S1⟩, q1, hf⟩ := Option.bind_eq_some_iff.mp hf
    cases hf
    exact h.s m σ H δ S d1 S1 _ er sr q1 fun v m1 H1 e1 s1 r1 => q v m1 H1 e1 s1 r1.wk⟩
/-! ## t.index(x) -/
def rTIndexD (K : PySem.W.Frag) : V → List V → Hp → VK → Prop := fun x xs H Q => ∃ (a : Addr) (y : V) (d : PyData) (ds : List PyData) (j : Nat) (z : PyData), x = V.ref a ∧ xs = [y] ∧ Dp K H (V.ref a) (.tuple ds) ∧ Dp K H y d ∧
  SeqAt.shaped (.tuple ds) = true ∧ SeqAt.shaped d = true ∧ ds[j]? = some z ∧ PyData.eqv z d = true ∧ (∀ (m : Nat) (z' : PyData), m < j → ds[m]? = some z' → PyData.eqv z' d = false) ∧ Q (.int (j : Nat)) H
theorem mt_tindexD (hu : X.A.units + 65 < cLine) : MtR X "tuple.index" (rTIndexD X.K) := by
  intro pins s σ H x xs v us Q I rx rxs h
  obtain ⟨a, y, d, ds, j, z, rfl, rfl, hl, hy, sl, sd, hz, hzj, hno, q⟩ := h
  cases rx
  cases rxs with
  | cons ry rt =>
    rename_i uy ut
    cases rt
    obtain ⟨bs, r1⟩ := Dp.reads I d y uy hy ry
    have hxs : PyData.canLayAll0 ds = true := SeqAt.canLay_of_shaped sl
    have hroom : X.A.units + 1 + min (PyData.depthAll ds) d.depth < cLine := room_in_shaped sd hu
    cases hl with
    | tup hs ha =>
      obtain ⟨its, rv, ⟨⟨cls, dd, data, sls⟩, ho, hc, n, hdt⟩, hlen⟩ := I.tuple hs
      simp only at hc hdt
      subst hc hdt
      obtain ⟨as, h4⟩ := Dp.readsAll I ds _ its ha rv
      have hn : its.length = ds.length := SeqAt.ReadsAll.length ds its as h4
      have hmap : its.map (SeqAt.readOf s.heap) = ds := SeqAt.readsAll_map ds its as hxs h4
      obtain ⟨hjd, _⟩ := List.getElem?_eq_some_iff.mp hz
      have hjl : j < its.length := by omega
      have hj : j < its.toArray.size := by simpa using hjl
      have at_ : ∀ (m : Nat) (hm : m < its.toArray.size) (z' : PyData), ds[m]? = some z' → SeqAt.readOf s.heap its.toArray[m] = z' := by
        intro m hm z' hz'
        have hml : m < its.length := by simpa using hm
        rw [← hmap, List.getElem?_map, List.getElem?_eq_getElem hml] at hz'
        have e1 : SeqAt.readOf s.heap its[m] = z' := Option.some.inj (show some (SeqAt.readOf s.heap its[m]) = some z' from hz')
        simpa using e1
      refine call_meets PySem.F.slot_tuple_index ⟨_, ho, rfl⟩ PySem.F.entry_tuple_index (PySem.F.args_tuple_index_2 _ _)
        (TI.tuple_indexAt a its.toArray n dd sls uy (fun u => PyData.eqv (SeqAt.readOf s.heap u) d) j hj ?_ ?_) ⟨ho, SeqAt.items_eqAt (vs := its.toArray) (show ReadsAll s.heap its.toArray.toList ds as from h4) r1 hxs (SeqAt.canLay_of_shaped sd) hroom, ?_⟩
      · show PyData.eqv (SeqAt.readOf s.heap its.toArray[j]) d = true
        rw [at_ j hj z hz]
        exact hzj
      · intro m hm hmj
        have hmd : m < ds.length := by omega
        have hz' : ds[m]? = some ds[m] := List.getElem?_eq_getElem hmd
        show PyData.eqv (SeqAt.readOf s.heap its.toArray[m]) d = false
        rw [at_ m hm _ hz']
        exact hno m _ hmj hz'
      · exact ⟨.int (j : Nat), H, I.tok _, ⟨_, rfl⟩, q⟩
def TunV (x : V) (H : Hp) : Prop := ∃ (a : Addr) (ob : Obj) (xs : List V), x = .ref a ∧ H a = some (.frz ob (.tup xs)) ∧ ob.dict = none ∧ ob.cls = .type "tuple"
theorem tunV_is {pins : List (Addr × Obj)} {σ : L2.St} {H : Hp} {s : Shared} {x : V} {v : Value} (I : Inv X pins σ H s) (r : RelV x v) (ty : TunV x H) :
    s.TypeIs v "tuple" ∧ ∀ a, v = .ref a → ∃ ob, s.heap.get? a = some ob ∧ ob.dict = none := by
  obtain ⟨a, ob, xs, rfl, h1, h2, h3⟩ := ty
  cases r
  obtain ⟨e, _⟩ := (show ObjOk X.prog X.w H s.heap a (.frz ob (.tup xs)) from I.hok a _ h1)
  exact ⟨⟨ob, e, h3⟩, fun b eb => by cases eb; exact ⟨ob, e, h2⟩⟩
def tTix (r : V → List V → Hp → VK → Prop) (to : TE) (t : TA) : TE := fun σ H Q => to σ H fun x H1 => TunV x H1 ∧ t σ H1 fun xs H2 => r x xs H2 Q
theorem pe_tix {o : Expr} {to : TE} {t : TA} {apos cpos : Pos} {r : V → List V → Hp → VK → Prop} (hm : MtR X "tuple.index" r) (ho : PE X o to) (ha : PA X (e :: es) t)
    (hbase : attributeBase o "index" X.env (eval o X.env) = eval o X.env := by rfl)
    (hfew : ((backTo cpos (starEach (e :: es) X.env)).all (fun x => !x.1) && (backToKw cpos (keywordEach [] X.env)).all (fun x => x.1.isSome)
      && decide ((e :: es).length + ([] : List Keyword).length + (if ([] : List Keyword).isEmpty then 0 else 1) < 30)) = true := by rfl)
    (hline : (apos.endLine == cpos.line) = true := by rfl) (hs : starEach (e :: es) X.env = (false, eval e X.env) :: starEach es X.env := by rfl) (hplain : (backTo cpos (starEach es X.env)).any (·.1) = false := by rfl) :
    PE X (.Call (.Attribute o "index" apos) (e :: es) [] cpos) (tTix r to t) := by
  refine ⟨fun pins s σ H Q I h => ?_⟩
  refine wpAny_Call_method_late hbase hfew hline rfl (thn (ho.run pins s σ H _ I h) fun v s1 ⟨x, H1, I1, r1, ty, q1⟩ => ?_)
  obtain ⟨h1, h2⟩ := tunV_is I1 r1 ty
  refine ⟨"tuple", "tuple.index", PySem.F.plainAttrs_tuple, PySem.F.slot_tuple_index, PySem.F.type_tuple_index, h1, h2, ?_⟩
  have hA := ha.run cpos pins s1 σ H1 _ I1 q1
  rw [hs] at hA ⊢
  refine Calls.callWith_builtin (by show (false || (backTo cpos (starEach es X.env)).any (·.1)) = false; rw [hplain] <;> rfl) (Calls.evalArgs_plain ?_)
  exact thn hA fun us s2 ⟨vs, H2, I2, r2, q2⟩ => hm pins s2 σ H2 x vs v us Q I2 r1 r2 q2
def dTix (x y : D) : Option D := match x with
  | .tun xs => if SeqAt.shaped (.tuple (pyL xs)) = true ∧ SeqAt.shaped (py y) = true then ((pyL xs).findIdx? fun z => PyData.eqv z (py y)).map fun j => .int (j : Nat) else none
  | _ => none
def isTun : D → Bool
  | .tun _ => true
  | _ => false
def eTIndex (fo fe : E) : E := fun δ S => (fo δ S).bind fun o => if isTun o.1 = true then (fe δ o.2).bind fun v => (dTix o.1 v.1).bind fun d => some (d, v.2) else none
theorem re_tindex {apos : Pos} (hu : X.A.units + 65 < cLine) (ho : RE X C a ta fa) (he : RE X C e te f)
    (hs : starEach [e] X.env = (false, eval e X.env) :: starEach [] X.env := by rfl)
    (hbase : attributeBase a "index" X.env (eval a X.env) = eval a X.env := by rfl)
    (hfew : ((backTo pos (starEach [e] X.env)).all (fun x => !x.1) && (backToKw pos (keywordEach [] X.env)).all (fun x => x.1.isSome)
      && decide ([e].length + ([] : List Keyword).length + (if ([] : List Keyword).isEmpty then 0 else 1) < 30)) = true := by rfl)
    (hline : (apos.endLine == pos.line) = true := by rfl) (hplain : (backTo pos (starEach [] X.env)).any (·.1) = false := by rfl) :
    RE X C (.Call (.Attribute a "index" apos) [e] [] pos) (tTix (rTIndexD X.K) ta (tCons te tNil)) (eTIndex fa f) :=
  ⟨pe_tix (mt_tindexD hu) ho.p (pa_cons he.p pa_nil hs) hbase hfew hline hs hplain, fun m σ H δ S d S' Q er sr hf q => by
    unfold eTIndex at hf
    obtain ⟨⟨d1, S1⟩, q1, hf⟩ := Option.bind_eq_some_iff.mp hf
    split at hf
    · rename_i ht
      obtain ⟨⟨d2, S2⟩, q2, hf⟩ := Option.bind_eq_some_iff.mp hf
      obtain ⟨d3, q3, hf⟩ := Option.bind_eq_some_iff.mp hf
      cases hf
      refine ho.s m σ H δ S d1 S1 _ er sr q1 fun v m1 H1 e1 s1 r1 => ?_
      cases r1 with
      | @tun a ob xs ds h1 h2 h3 r =>
        refine ⟨⟨a, ob, xs, rfl, h1, h2, h3⟩, ?_⟩
        refine he.s m1 σ H1 δ S1 d2 S2 _ (er.ev e1) s1 q2 fun u m2 H2 e2 s2 r2 => ?_
        simp only [dTix] at q3
        split at q3
        · rename_i hsh
          obtain ⟨j, hj, ej⟩ := Option.map_eq_some_iff.mp q3
          subst ej
          obtain ⟨hjl, hj1, hj2⟩ := List.findIdx?_eq_some_iff_getElem.mp hj
          have c1 : PyData.canLayAll0 (pyL ds) = true := by simpa [PyData.canLay0] using SeqAt.canLay_of_shaped hsh.1
          refine ⟨a, u, py d2, pyL ds, j, (pyL ds)[j], rfl, rfl, .tup (.inl (.inr ⟨ob, e2.frz _ _ _ h1⟩)) ((r.ev e2).dp c1), r2.dp (SeqAt.canLay_of_shaped hsh.2), hsh.1, hsh.2, List.getElem?_eq_getElem hjl, hj1, fun m' z' hm hz => ?_, ?_⟩
          · have hml : m' < (pyL ds).length := by omega
            rw [List.getElem?_eq_getElem hml] at hz
            cases hz
            have := hj2 m' hm
            simpa using this
          · exact q _ m2 H2 (e1.trans e2) s2 (.int _)
        · cases q3
      | _ => simp [isTun] at ht
    · cases hf⟩
/-! ## x in xs, of any data -/
def dInD (neg : Bool) : Op2 := fun x y S => match pyS S y with
  | .list ds => if SeqAt.shaped (py x) = true ∧ SeqAt.shaped (.list ds) = true then some (.bl (if neg = true then !(ds.any fun z => PyData.eqv z (py x)) else ds.any fun z => PyData.eqv z (py x))) else none
  | _ => none
theorem s_inD {K : PySem.W.Frag} : R2Sem C K (rInD K) (dInD false) := fun m H x y d1 d2 S d Q r1 r2 sr hf q => by
  unfold dInD at hf
  split at hf
  · rename_i ds he
    split at hf
    · rename_i hsh
      cases hf
      have c2 := SeqAt.canLay_of_shaped hsh.2
      rw [← he] at c2
      have h2 := r2.dpS sr c2
      rw [he] at h2
      exact ⟨_, _, r1.dp (SeqAt.canLay_of_shaped hsh.1), h2, hsh.1, hsh.2, q _ m H .refl sr (.bl _)⟩
    · cases hf
  · cases hf
theorem s_notInD {K : PySem.W.Frag} : R2Sem C K (rNotInD K) (dInD true) := fun m H x y d1 d2 S d Q r1 r2 sr hf q => by
  unfold dInD at hf
  split at hf
  · rename_i ds he
    split at hf
    · rename_i hsh
      cases hf
      have c2 := SeqAt.canLay_of_shaped hsh.2
      rw [← he] at c2
      have h2 := r2.dpS sr c2
      rw [he] at h2
      exact ⟨_, _, r1.dp (SeqAt.canLay_of_shaped hsh.1), h2, hsh.1, hsh.2, q _ m H .refl sr (.bl _)⟩
    · cases hf
  · cases hf
theorem rc_inD (hu : X.A.units + 65 < cLine) (ha : RE X C a ta fa) (hb : RE X C b tb fb) (hm : behindInMarks .In b = false := by rfl) : RC X C (.Compare a [.In] [b] pos) (tOp (rInD X.K) ta tb) (eOp (dInD false) fa fb) := rc_op (op_inD hu) s_inD ha hb hm
theorem rc_notinD (hu : X.A.units + 65 < cLine) (ha : RE X C a ta fa) (hb : RE X C b tb fb) (hm : behindInMarks .NotIn b = false := by rfl) : RC X C (.Compare a [.NotIn] [b] pos) (tOp (rNotInD X.K) ta tb) (eOp (dInD true) fa fb) := rc_op (op_notInD hu) s_notInD ha hb hm
theorem u65 {k : Nat} {A : Around} (r : Room k A) : A.units + 65 < cLine := by
  have h1 := r.un
  omega
end
end Cb
namespace Cb
open PySem PySem.Spec PyProof.Rows L2
section
variable {X : Cx} {C : Addr} {pos : Pos} {a b e : Expr} {es : List Expr} {ta tb te : TE} {tA : TA} {fa fb f : E} {g : A}
/-! ## defs as values -/
theorem re_gFn {x : Str} {p : Addr} (hg : Gl X x) (hn : PySem.W.nsIn X.K mainGlobals x = some (some (.ref p))) (hm : X.mg x = some (.ref p)) (hd : (x == ("__debug__" : Str)) = false := by decide) : RE X C (.Name x pos) (tC (.ref p)) (eC (.fn x)) :=
  ⟨pe_glob hg hm rfl hd, fun m σ H δ S d S' Q er sr h q => by cases h; exact q _ m H .refl sr (.fn hn)⟩
def tCallV (K : PySem.W.Frag) (C : Addr) (i n : Nat) (tb : Str → Option Fn) (E : XK) (t : TA) : TE := fun σ H Q => ∃ (p : Addr) (x : Str) (F : Fn), σ[i]? = some (some (.ref p)) ∧ PySem.W.nsIn K mainGlobals x = some (some (.ref p)) ∧ tb x = some F ∧ t σ H fun vs H1 => spF C K n F (vs ++ []) H1 Q E
def eCallV (i n : Nat) (tb : Str → Option Fn) (g : A) : E := fun δ S => match δ[i]? with
  | some (some (.fn x)) => match tb x with
    | some F => (g δ S).bind fun p => if p.1.length = n then F p.1 p.2 else none
    | none => none
  | _ => none
theorem re_callV {k n i : Nat} {y : Str} {q : Pos} {tb : Str → Option Fn} (cals : ∀ x F, tb x = some F → Cal X.prog X.w X.K X.mg X.base C k x n F) (hr : Room k X.A) (ha : RA X C (e :: es) tA g)
    (hN : X.N[i]? = some y := by rfl) (hv : Vis X.env.scope y := by first | exact Or.inl rfl | exact Or.inr (Or.inl rfl) | exact Or.inr (Or.inr rfl)) (hd : (y == ("__debug__" : Str)) = false := by decide)
    (hcd : (y == ("__classdict__" : Str)) = false := by decide)
    (he : starEach (e :: es) X.env = (false, eval e X.env) :: starEach es X.env := by rfl) (hpl : (backTo pos (starEach es X.env)).any (·.1) = false := by rfl) :
    RE X C (.Call (.Name y q) (e :: es) [] pos) (tCallV X.K C i n tb E0 tA) (eCallV i n tb g) := by
  refine ⟨⟨fun pins s σ H Q I h => ?_⟩, fun m σ H δ S d S' Q er sr hf qq => ?_⟩
  · obtain ⟨p, x, F, hσ, hn, ht, h⟩ := h
    obtain ⟨f, fd, ps, F', bd, kp, hm⟩ := (cals x F ht).ex
    have hm' := PySem.W.mg_of I.ok.mod.kin I.ok.mod.glob hn
    rw [hm] at hm'
    cases hm'
    refine wpAny_Call_Name_kw (thn ((pe_var (pos := q) hN hv hd hcd).run pins s σ H (fun v H1 => v = .ref p ∧ tA σ H1 fun vs H2 => spF C X.K n F (vs ++ []) H2 Q E0) I ⟨.ref p, hσ, rfl, h⟩) fun u s1 ⟨v, H1, I1, r1, ev, q1⟩ => ?_)
    subst ev
    cases r1
    refine PySem.W.callWith_K (h₀ := X.base) I1.ok.mod.kin kp (thn (ha.p.run pos pins s1 σ H1 _ I1 q1) fun us s2 ⟨vs, H2, I2, r, q2⟩ => ⟨I2.kIn, ?_⟩) he hpl
    exact run_fn F' hr bd .nil pass0 I2 r q2
  · unfold eCallV at hf
    split at hf
    · rename_i x hδ
      split at hf
      · rename_i F ht
        obtain ⟨⟨ds, S1⟩, q1, hf⟩ := Option.bind_eq_some_iff.mp hf
        split at hf
        · rename_i hl
          obtain ⟨v, hv', r⟩ := er.get i _ hδ
          cases r with
          | @fn p _ hn =>
            refine ⟨p, x, F, hv', hn, ht, ?_⟩
            refine ha.s m σ H δ S ds S1 _ er sr q1 fun vs m1 H1 e1 s1 r1 => ?_
            rw [List.append_nil]
            exact ⟨by rw [r1.length]; exact hl, m1, S1, ds, d, S', r1, s1, hf, fun v m2 H2 e2 s2 r2 => qq v m2 H2 (e1.trans e2) s2 r2⟩
        · cases hf
      · cases hf
    · cases hf
def tb3 (a b c : Str) (Fa Fb Fc : Fn) : Str → Option Fn := fun x => if x = a then some Fa else if x = b then some Fb else if x = c then some Fc else none
theorem cals3 {P : Program} {w : World} {K : PySem.W.Frag} {mg : Str → Option Value} {base : Heap} {C : Addr} {k n : Nat} {a b c : Str} {Fa Fb Fc : Fn} (ha : Cal P w K mg base C k a n Fa) (hb : Cal P w K mg base C k b n Fb) (hc : Cal P w K mg base C k c n Fc) :
    ∀ x F, tb3 a b c Fa Fb Fc x = some F → Cal P w K mg base C k x n F := fun x F h => by
  unfold tb3 at h
  split at h
  · rename_i e; subst e; cases h; exact ha
  · split at h
    · rename_i e; subst e; cases h; exact hb
    · split at h
      · rename_i e; subst e; cases h; exact hc
      · cases h
end
end Cb
namespace Cb
open PySem PySem.Spec PyProof.Rows L2
/-! ## two statements that make a dict and end with it: from there on it never changes -/
def okSl (n i : Nat) (δ : Sl) : Bool := (List.range δ.length).all fun k => k == i || (match δ[k]? with | some (some d) => okD n d | _ => true)
def frz (n i : Nat) (δ : Sl) (S : List O) : Option (Sl × List O) := match δ[i]? with
  | some (some (.ref j)) => if n ≤ j ∧ (S.take n).all (okO n) = true ∧ okSl n i δ = true then (match S[j]? with
      | some (.dic ks) => if okKs n ks = true then some (δ.set i (some (.dic ks)), S.take n) else none
      | _ => none) else none
  | _ => none
def sFrz (i : Nat) (b : B) : B := fun δ S => (b δ S).bind fun o => match o with
  | .nx δ2 S2 => (frz S.length i δ2 S2).bind fun p => some (.nx p.1 p.2)
  | _ => none
section
variable {C : Addr} {K : PySem.W.Frag}
theorem s_frz {t : TS} {b : B} (i : Nat) (h : SSem C K t b) : SSem C K t (sFrz i b) := fun m σ H δ S o Z er sr hf q => by
  unfold sFrz at hf
  obtain ⟨o1, q1, hf⟩ := Option.bind_eq_some_iff.mp hf
  split at hf
  · rename_i δ2 S2
    obtain ⟨⟨δ3, S3⟩, q2, hf⟩ := Option.bind_eq_some_iff.mp hf
    cases hf
    refine h m σ H δ S _ Z er sr q1 ?_
    intro m' σ' H' e er' s'
    have hc := cut_of e sr.len
    unfold frz at q2
    split at q2
    · rename_i j hj
      split at q2
      · rename_i hcond
        obtain ⟨hnj, hok, hsl⟩ := hcond
        split at q2
        · rename_i ks hks
          split at q2
          · rename_i k
            cases q2
            refine q m σ' H' e.cut ?_ (s'.cut hc hok)
            have nin : ∀ a, m'.l[j]? = some a → ¬ m.has a := fun a ha z => by
              rcases z with z | z
              · obtain ⟨i, hi, ei⟩ := List.mem_iff_getElem.mp z
                have h1 : m.l[i]? = some a := by rw [List.getElem?_eq_getElem hi, ei]
                have h2 := e.at h1
                have := nd_ix s'.nd h2 ha
                rw [← sr.len] at hnj
                omega
              · refine s'.apt a ?_ (List.mem_of_getElem? ha)
                rw [e.hid]; exact z
            refine ⟨by rw [er'.len, List.length_set], fun k' d hd => ?_⟩
            by_cases hk : k' = i
            · subst hk
              have hlt : k' < δ2.length := (List.getElem?_eq_some_iff.mp hj).1
              rw [List.getElem?_set_self hlt] at hd
              cases hd
              obtain ⟨v, hv, r⟩ := er'.get k' _ hj
              refine ⟨v, hv, ?_⟩
              cases r with
              | @ref a _ hn =>
                obtain ⟨vs, h1, h2, h3⟩ := s'.obj _ _ _ hn hks
                refine .dic h1 (nin a hn) h2 ?_
                rw [← hc]
                exact h3.cut' (by rw [← okKs_eq]; exact k)
            · rw [List.getElem?_set_ne (fun z => hk z.symm)] at hd
              obtain ⟨v, hv, r⟩ := er'.get k' _ hd
              refine ⟨v, hv, ?_⟩
              rw [← hc]
              refine r.cut ?_
              have hlt : k' < δ2.length := (List.getElem?_eq_some_iff.mp hd).1
              have := List.all_eq_true.mp hsl k' (List.mem_range.mpr hlt)
              rw [hd] at this
              simpa [hk] using this
          · cases q2
        · cases q2
      · cases q2
    · cases q2
  · cases hf
theorem s_two {t1 t2 : TS} {b1 b2 : B} (h1 : SSem C K t1 b1) (h2 : SSem C K t2 b2) : SSem C K (tSeq t1 t2) (sSeq b1 b2) := fun m σ H δ S o Z er sr hf q => by
  unfold sSeq at hf
  obtain ⟨o1, q1, hf⟩ := Option.bind_eq_some_iff.mp hf
  refine h1 m σ H δ S o1 _ er sr q1 ?_
  split at hf
  · exact fun m1 σ1 H1 e1 er1 s1 => h2 m1 σ1 H1 _ _ o Z er1 s1 hf (q.ev e1)
  · cases hf
    cases o with
    | nx δ' S' => rename_i h; exact absurd rfl (h δ' S')
    | rt d S' => exact q
    | bk δ' S' => exact q
    | ct δ' S' => exact q
theorem rss_frz {X : Cx} {st1 st2 : Stmt} {sts : List Stmt} {t1 t2 t : TS} {b1 b2 b : B} (i : Nat) (h1 : RS X C st1 t1 b1) (h2 : RS X C st2 t2 b2) (h : RSs X C sts t b) : RSs X C (st1 :: st2 :: sts) (tSeq t1 (tSeq t2 t)) (sSeq (sFrz i (sSeq b1 b2)) b) :=
  ⟨pss_cons h1.p (pss_cons h2.p h.p), s_two (t1 := tSeq t1 t2) (s_frz i (s_two h1.s h2.s)) h.s⟩
end
end Cb
namespace Cb
open PySem PySem.Spec PyProof.Rows L2
/-! ## a list that is made and changed, and ends with a block of statements: from there on it never changes -/
def frzL (n i : Nat) (δ : Sl) (S : List O) : Option (Sl × List O) := match δ[i]? with
  | some (some (.ref j)) => if n ≤ j ∧ (S.take n).all (okO n) = true ∧ okSl n i δ = true then (match S[j]? with
      | some (.lst ks) => if okDs n ks = true then some (δ.set i (some (.lst ks)), S.take n) else none
      | _ => none) else none
  | _ => none
def sFrzL (i : Nat) (b : B) : B := fun δ S => (b δ S).bind fun o => match o with
  | .nx δ2 S2 => (frzL S.length i δ2 S2).bind fun p => some (.nx p.1 p.2)
  | _ => none
section
variable {C : Addr} {K : PySem.W.Frag}
theorem s_frzL {t : TS} {b : B} (i : Nat) (h : SSem C K t b) : SSem C K t (sFrzL i b) := fun m σ H δ S o Z er sr hf q => by
  unfold sFrzL at hf
  obtain ⟨o1, q1, hf⟩ := Option.bind_eq_some_iff.mp hf
  split at hf
  · rename_i δ2 S2
    obtain ⟨⟨δ3, S3⟩, q2, hf⟩ := Option.bind_eq_some_iff.mp hf
    cases hf
    refine h m σ H δ S _ Z er sr q1 ?_
    intro m' σ' H' e er' s'
    have hc := cut_of e sr.len
    unfold frzL at q2
    split at q2
    · rename_i j hj
      split at q2
      · rename_i hcond
        obtain ⟨hnj, hok, hsl⟩ := hcond
        split at q2
        · rename_i ks hks
          split at q2
          · rename_i k
            cases q2
            refine q m σ' H' e.cut ?_ (s'.cut hc hok)
            have nin : ∀ a, m'.l[j]? = some a → ¬ m.has a := fun a ha z => by
              rcases z with z | z
              · obtain ⟨i, hi, ei⟩ := List.mem_iff_getElem.mp z
                have h1 : m.l[i]? = some a := by rw [List.getElem?_eq_getElem hi, ei]
                have h2 := e.at h1
                have := nd_ix s'.nd h2 ha
                rw [← sr.len] at hnj
                omega
              · refine s'.apt a ?_ (List.mem_of_getElem? ha)
                rw [e.hid]; exact z
            refine ⟨by rw [er'.len, List.length_set], fun k' d hd => ?_⟩
            by_cases hk : k' = i
            · subst hk
              have hlt : k' < δ2.length := (List.getElem?_eq_some_iff.mp hj).1
              rw [List.getElem?_set_self hlt] at hd
              cases hd
              obtain ⟨v, hv, r⟩ := er'.get k' _ hj
              refine ⟨v, hv, ?_⟩
              cases r with
              | @ref a _ hn =>
                obtain ⟨vs, h1, h2⟩ := s'.obj _ _ _ hn hks
                refine .lst h1 (nin a hn) ?_
                rw [← hc]
                exact h2.cut' k
            · rw [List.getElem?_set_ne (fun z => hk z.symm)] at hd
              obtain ⟨v, hv, r⟩ := er'.get k' _ hd
              refine ⟨v, hv, ?_⟩
              rw [← hc]
              refine r.cut ?_
              have hlt : k' < δ2.length := (List.getElem?_eq_some_iff.mp hd).1
              have := List.all_eq_true.mp hsl k' (List.mem_range.mpr hlt)
              rw [hd] at this
              simpa [hk] using this
          · cases q2
        · cases q2
      · cases q2
    · cases q2
  · cases hf
/-- two lists at once -/
def okSl2 (n i i2 : Nat) (δ : Sl) : Bool := (List.range δ.length).all fun k => k == i || k == i2 || (match δ[k]? with | some (some d) => okD n d | _ => true)
def frzLL (n i i2 : Nat) (δ : Sl) (S : List O) : Option (Sl × List O) := match δ[i]? with
  | some (some (.ref j)) => (match δ[i2]? with
    | some (some (.ref j2)) => if n ≤ j ∧ n ≤ j2 ∧ (S.take n).all (okO n) = true ∧ okSl2 n i i2 δ = true then (match S[j]? with
      | some (.lst ks) => (match S[j2]? with
        | some (.lst ks2) => if okDs n ks = true ∧ okDs n ks2 = true then some ((δ.set i (some (.lst ks))).set i2 (some (.lst ks2)), S.take n) else none
        | _ => none)
      | _ => none) else none
    | _ => none)
  | _ => none
def sFrzLL (i i2 : Nat) (b : B) : B := fun δ S => (b δ S).bind fun o => match o with
  | .nx δ2 S2 => (frzLL S.length i i2 δ2 S2).bind fun p => some (.nx p.1 p.2)
  | _ => none
theorem s_frzLL {t : TS} {b : B} (i i2 : Nat) (hi : i ≠ i2) (h : SSem C K t b) : SSem C K t (sFrzLL i i2 b) := fun m σ H δ S o Z er sr hf q => by
  unfold sFrzLL at hf
  obtain ⟨o1, q1, hf⟩ := Option.bind_eq_some_iff.mp hf
  split at hf
  · rename_i δ2 S2
    obtain ⟨⟨δ3, S3⟩, q2, hf⟩ := Option.bind_eq_some_iff.mp hf
    cases hf
    refine h m σ H δ S _ Z er sr q1 ?_
    intro m' σ' H' e er' s'
    have hc := cut_of e sr.len
    unfold frzLL at q2
    split at q2
    · rename_i j hj
      split at q2
      · rename_i j2 hj2
        split at q2
        · rename_i hcond
          obtain ⟨hnj, hnj2, hok, hsl⟩ := hcond
          split at q2
          · rename_i ks hks
            split at q2
            · rename_i ks2 hks2
              split at q2
              · rename_i kk
                obtain ⟨k, k2⟩ := kk
                cases q2
                refine q m σ' H' e.cut ?_ (s'.cut hc hok)
                have nin : ∀ (j : Nat) a, S.length ≤ j → m'.l[j]? = some a → ¬ m.has a := fun j a hnj ha z => by
                  rcases z with z | z
                  · obtain ⟨i, hi, ei⟩ := List.mem_iff_getElem.mp z
                    have h1 : m.l[i]? = some a := by rw [List.getElem?_eq_getElem hi, ei]
                    have h2 := e.at h1
                    have := nd_ix s'.nd h2 ha
                    rw [← sr.len] at hnj
                    omega
                  · refine s'.apt a ?_ (List.mem_of_getElem? ha)
                    rw [e.hid]; exact z
                refine ⟨by rw [er'.len, List.length_set, List.length_set], fun k' d hd => ?_⟩
                by_cases hk2 : k' = i2
                · subst hk2
                  have hlt : k' < δ2.length := (List.getElem?_eq_some_iff.mp hj2).1
                  rw [List.getElem?_set_self (by rw [List.length_set]; exact hlt)] at hd
                  cases hd
                  obtain ⟨v, hv, r⟩ := er'.get k' _ hj2
                  refine ⟨v, hv, ?_⟩
                  cases r with
                  | @ref a _ hn =>
                    obtain ⟨vs, h1, h2⟩ := s'.obj _ _ _ hn hks2
                    refine .lst h1 (nin _ a hnj2 hn) ?_
                    rw [← hc]
                    exact h2.cut' k2
                · rw [List.getElem?_set_ne (fun z => hk2 z.symm)] at hd
                  by_cases hk : k' = i
                  · subst hk
                    have hlt : k' < δ2.length := (List.getElem?_eq_some_iff.mp hj).1
                    rw [List.getElem?_set_self hlt] at hd
                    cases hd
                    obtain ⟨v, hv, r⟩ := er'.get k' _ hj
                    refine ⟨v, hv, ?_⟩
                    cases r with
                    | @ref a _ hn =>
                      obtain ⟨vs, h1, h2⟩ := s'.obj _ _ _ hn hks
                      refine .lst h1 (nin _ a hnj hn) ?_
                      rw [← hc]
                      exact h2.cut' k
                  · rw [List.getElem?_set_ne (fun z => hk z.symm)] at hd
                    obtain ⟨v, hv, r⟩ := er'.get k' _ hd
                    refine ⟨v, hv, ?_⟩
                    rw [← hc]
                    refine r.cut ?_
                    have hlt : k' < δ2.length := (List.getElem?_eq_some_iff.mp hd).1
                    have := List.all_eq_true.mp hsl k' (List.mem_range.mpr hlt)
                    rw [hd] at this
                    simpa [hk, hk2] using this
              · cases q2
            · cases q2
          · cases q2
        · cases q2
      · cases q2
    · cases q2
  · cases hf
theorem rss_frzLL3 {X : Cx} {st1 st2 st3 : Stmt} {sts : List Stmt} {t1 t2 t3 t : TS} {b1 b2 b3 b : B} (i i2 : Nat) (hi : i ≠ i2) (h1 : RS X C st1 t1 b1) (h2 : RS X C st2 t2 b2) (h3 : RS X C st3 t3 b3) (h : RSs X C sts t b) :
    RSs X C (st1 :: st2 :: st3 :: sts) (tSeq t1 (tSeq t2 (tSeq t3 t))) (sSeq (sFrzLL i i2 (sSeq b1 (sSeq b2 b3))) b) :=
  ⟨pss_cons h1.p (pss_cons h2.p (pss_cons h3.p h.p)), s_two (t1 := tSeq t1 (tSeq t2 t3)) (s_frzLL i i2 hi (s_two h1.s (s_two h2.s h3.s))) h.s⟩
/-- two, four statements -/
theorem rss_frzL2 {X : Cx} {st1 st2 : Stmt} {sts : List Stmt} {t1 t2 t : TS} {b1 b2 b : B} (i : Nat) (h1 : RS X C st1 t1 b1) (h2 : RS X C st2 t2 b2) (h : RSs X C sts t b) : RSs X C (st1 :: st2 :: sts) (tSeq t1 (tSeq t2 t)) (sSeq (sFrzL i (sSeq b1 b2)) b) :=
  ⟨pss_cons h1.p (pss_cons h2.p h.p), s_two (t1 := tSeq t1 t2) (s_frzL i (s_two h1.s h2.s)) h.s⟩
theorem rss_frzL4 {X : Cx} {st1 st2 st3 st4 : Stmt} {sts : List Stmt} {t1 t2 t3 t4 t : TS} {b1 b2 b3 b4 b : B} (i : Nat) (h1 : RS X C st1 t1 b1) (h2 : RS X C st2 t2 b2) (h3 : RS X C st3 t3 b3) (h4 : RS X C st4 t4 b4) (h : RSs X C sts t b) :
    RSs X C (st1 :: st2 :: st3 :: st4 :: sts) (tSeq t1 (tSeq t2 (tSeq t3 (tSeq t4 t)))) (sSeq (sFrzL i (sSeq b1 (sSeq b2 (sSeq b3 b4)))) b) :=
  ⟨pss_cons h1.p (pss_cons h2.p (pss_cons h3.p (pss_cons h4.p h.p))), s_two (t1 := tSeq t1 (tSeq t2 (tSeq t3 t4))) (s_frzL i (s_two h1.s (s_two h2.s (s_two h3.s h4.s)))) h.s⟩
end
/-! ## dict(list of pairs) -/
def prsD : List D → Option (List (Key × D))
  | [] => some []
  | .tup [k, d] :: r => (dK k).bind fun k => (prsD r).map fun r => (k, d) :: r
  | _ => none
theorem prsD_rp {K : PySem.W.Frag} {m : M} {H : Hp} : ∀ {ds : List D} {vs : List V} {ks : List (Key × D)}, prsD ds = some ks → RpAll K m H vs ds →
    ∃ (ps : List Addr) (kvs : List (Key × V)), vs = ps.map V.ref ∧ Paired (fun p kv => SqT K H p [kV kv.1, kv.2]) ps kvs ∧ DL K m H kvs ks
  | [], _, ks, h, .nil => by cases h; exact ⟨[], [], rfl, .nil, .nil⟩
  | d :: ds, _, ks, h, .cons (v := v) r rs => by
    unfold prsD at h
    split at h
    · cases ‹_ :: _ = []›
    · rename_i k d' r' he
      cases he
      obtain ⟨k', h1, h⟩ := Option.bind_eq_some_iff.mp h
      obtain ⟨r2, h2, h⟩ := Option.map_eq_some_iff.mp h
      subst h
      obtain ⟨ps, kvs, e1, e2, e3⟩ := prsD_rp h2 rs
      subst e1
      cases r with
      | @tup a xs _ s1 r1 =>
        cases r1 with
        | @cons v1 _ _ _ q1 r1 =>
          cases r1 with
          | @cons v2 _ _ _ q2 r1 =>
            cases r1
            have ek := rp_key q1 h1
            subst ek
            exact ⟨a :: ps, (k', v2) :: kvs, rfl, .cons s1 e2, .cons q2 e3⟩
    · cases h
def bdPairs : Bd := fun ds S => match ds with
  | [d] => (seqL S d).bind fun xs => (prsD xs).map fun ks => mergeD [] ks
  | _ => none
def rPairs (K : PySem.W.Frag) : List V → Hp → VK → Prop := fun xs H Q => ∃ (a : Addr) (ps : List Addr) (kvs : List (Key × V)), xs = [.ref a] ∧ SqL K H a (ps.map V.ref) ∧ Paired (fun p kv => SqT K H p [kV kv.1, kv.2]) ps kvs ∧
    ∀ p, H p = none → Q (.ref p) (upd H p (.dK (mergeK [] kvs)))
theorem s_pairs {C : Addr} {K : PySem.W.Frag} : CdSem C K (rPairs K) bdPairs := fun m H xs ds S d Q r sr hf q => by
  unfold bdPairs at hf
  split at hf
  · obtain ⟨ys, h1, hf⟩ := Option.bind_eq_some_iff.mp hf
    obtain ⟨ks, h2, hf⟩ := Option.map_eq_some_iff.mp hf
    subst hf
    cases r with
    | cons r1 rr =>
      cases rr
      obtain ⟨a, zs, e, h3, h4⟩ := rp_seqL sr r1 h1
      subst e
      obtain ⟨ps, kvs, e1, e2, e3⟩ := prsD_rp h2 h4
      subst e1
      exact ⟨a, ps, kvs, rfl, h3, e2, fun p hp => q p _ hp (e3.merge .nil)⟩
  · cases hf
section
variable {X : Cx} {C : Addr} {pos : Pos} {a b c e tg iter : Expr} {es : List Expr} {ta tb tc te : TE} {tA : TA} {fa fb fc f : E} {g : A}
/-! ## enumerate(list that never changes) -/
def iEnumLD (f : E) : A := fun δ S => (f δ S).bind fun p => (seqP p.1).map fun ds => (enumD 0 ds, p.2)
theorem ri_enumL {elts : List Expr} {kk : Nat} {tpos p : Pos} (hg : Gl X "enumerate") (hm : X.mg "enumerate" = none) (he : RE X C e te f) (hs : starEach [e] X.env = [(false, eval e X.env)] := by rfl) : RI X C (.Tuple elts kk tpos) (.Call (.Name "enumerate" p) [e] [] pos) (iEnum X.K (tCons te tNil)) (iEnumLD f) :=
  ⟨pi_enum hg hm (pa_cons he.p pa_nil hs) hs, fun m σ H δ S items S' R er sr hf q => by
    unfold iEnumLD at hf
    obtain ⟨⟨d1, S1⟩, q1, hf⟩ := Option.bind_eq_some_iff.mp hf
    obtain ⟨ds, q2, hf⟩ := Option.map_eq_some_iff.mp hf
    cases hf
    refine he.s m σ H δ S _ S1 _ er sr q1 fun v m1 H1 e1 s1 r1 => ?_
    obtain ⟨a, xs, ee, h4, h5⟩ := rp_seqP r1 q2
    subst ee
    refine ⟨a, xs, rfl, h4 _ _ (.of .refl), q _ m1 H1 e1 s1 fun m2 H2 S2 e2 s2 => ?_⟩
    have hl := h5.length
    have hle := enumD_len 0 ds
    refine ⟨fun i hi => ?_, ⟨xs, h4 _ _ e2, by omega⟩, fun i d x H' hd y => ?_⟩
    · obtain ⟨x, hx⟩ := lt_get (l := xs) (i := i) (by omega)
      exact ⟨xs, x, h4 _ _ e2, hx⟩
    · obtain ⟨T, x', ev, hT, eH, y2⟩ := y
      subst ev; subst eH
      rw [enumD_get] at hd
      cases hdd : ds[i]? with
      | none => rw [hdd] at hd; cases hd
      | some d0 =>
        rw [hdd] at hd
        cases hd
        obtain ⟨v, hv, rv⟩ := h5.get hdd
        have := y2 xs (h4 _ _ e2)
        rw [hv] at this
        cases this
        refine ⟨.lay hT, s2.lay hT, .tup (.of upd_same) (.cons ?_ (.cons ((rv.evH e2).ev (.lay hT)) .nil))⟩
        have : (0 + i : Nat) = i := by omega
        rw [this]
        exact .int _⟩
/-! ## a, b = a list that never changes -/
def gdLst (n : Nat) (gs : Gs) : G := fun d δ => (seqP d).bind fun ds => if ds.length = n then gs ds δ else none
theorem rg_lst {vs : List Nat} {k n : Nat} {ts : TGs} {gs : Gs} (hc : X.calm = true) (h : RGs X C es ts gs vs) (hn : (assignEach es X.env).length = n := by rfl) (hst : (assignEach es X.env).findIdx? (·.1) = none := by rfl) : RG X C (.Tuple es k pos) (gLst X.K n ts) (gdLst n gs) vs :=
  ⟨pg_lst hc h.p hn hst, fun m σ H δ S x d δ' Q er sr r hh q => by
    unfold gdLst at hh
    obtain ⟨ds, h1, hh⟩ := Option.bind_eq_some_iff.mp hh
    split at hh
    · rename_i hl
      obtain ⟨a, xs, e, h4, h5⟩ := rp_seqP r h1
      subst e
      exact ⟨_, _, rfl, h4 _ _ (.of .refl), by rw [h5.length, hl], h.s m σ H δ S _ _ δ' _ er sr h5 hh q⟩
    · cases hh⟩
def ddPairs (g : A) : DD := ddBi bdPairs g
theorem rd_pairs {p : Pos} (hc : X.calm = true) (hg : Gl X "dict") (hm : X.mg "dict" = none) (ha : RA X C (e :: es) tA g) (he : starEach (e :: es) X.env = (false, eval e X.env) :: starEach es X.env := by rfl) (hpl : (backTo pos (starEach es X.env)).any (·.1) = false := by rfl) :
    RD X C (.Call (.Name "dict" p) (e :: es) [] pos) (tCB (rPairs X.K) tA) (ddPairs g) := rd_callTy (call_dictP hc) s_pairs hg hm (by decide +kernel) ha (by decide) (by decide) he hpl
/-! ## [(x, d[x]) for x in d if d[x][0] != w] -/
def hd1 (w : Str) (d : D) : Option Bool := match d with
  | .tup (.str z :: _) => some (!decide (z = w))
  | _ => none
def usbD (w : Str) (ks0 : List (Key × D)) : List (Key × D) → Option (List D)
  | [] => some []
  | (k, _) :: r => (valD ks0 k).bind fun d => (hd1 w d).bind fun b => (usbD w ks0 r).map fun l => if b = true then .tup [kD k, d] :: l else l
def aUsb (i j : Nat) (w : Str) : A := fun δ S => match δ[i]? with
  | some (some (.dic ks)) => if ks.length ≤ 1000000 ∧ j < δ.length then (usbD w ks ks).map fun l => (l, S) else none
  | _ => none
def tUsb (K : PySem.W.Frag) (i j : Nat) (w : Str) : TE := tLockE (tLc (iKeys (tVar i)) (gName j) (tTest (tOp (rNeX K 64) (tOp (rIx K) (tDGet (tVar i) (tVar j)) (tC (.int 0))) (tC (.str w)))) (tTup (tCons (tVar j) (tCons (tDGet (tVar i) (tVar j)) tNil))) [j])
theorem pair_imp {α β : Type} {F G : α → β → Prop} (h : ∀ a b, F a b → G a b) : ∀ {l : List α} {r : List β}, Paired F l r → Paired G l r
  | _, _, .nil => .nil
  | _, _, .cons x xs => .cons (h _ _ x) (pair_imp h xs)
theorem key_rp {K : PySem.W.Frag} {m : M} {H : Hp} (k : Key) : Rp K m H (kV k) (kD k) := by
  cases k
  · exact .int _
  · exact .str _
theorem hd1_inv {w : Str} {d : D} {b : Bool} (h : hd1 w d = some b) : ∃ z r, d = .tup (.str z :: r) ∧ b = !decide (z = w) := by
  unfold hd1 at h
  split at h
  · cases h; exact ⟨_, _, rfl, rfl⟩
  · cases h
theorem usb_rp {K : PySem.W.Frag} {m : M} {H Hc : Hp} {a p : Addr} {u : HO} {od : Obj} {kvs : List (Key × V)} (hp0 : H p = none) (ha : Hc a = some (.frz od (.dK kvs))) (ev : Ev m H m (upd Hc a u)) : ∀ {acc : List V} {outs : List D},
    Paired (fun (x : V) (d : D) => ∃ T k v d', x = .ref T ∧ Hc T = some (.tup [kV k, v]) ∧ d = .tup [kD k, d'] ∧ Rp K m H v d') acc outs → RpAll K (m.hide p) (upd Hc a u) acc outs
  | _, _, .nil => .nil
  | _, _, .cons h t => by
    refine .cons ?_ (usb_rp hp0 ha ev t)
    obtain ⟨T3, k3, v3, d3, e1, e2, e3, e4⟩ := h
    subst e1; subst e3
    exact .tup (.of (by rw [upd_ne (fun e => by rw [e, ha] at e2; cases e2)]; exact e2)) (.cons (key_rp _) (.cons (Rp.hide hp0 ev e4) .nil))
theorem s_usb {K : PySem.W.Frag} (i j : Nat) (w : Str) (hij : i ≠ j) : LSem C K (tUsb K i j w) (aUsb i j w) := fun m σ H δ S ds S' Q er sr hf q => by
  unfold aUsb at hf
  split at hf
  · rename_i ks hks
    split at hf
    · rename_i hcd
      obtain ⟨hlen, hj⟩ := hcd
      obtain ⟨l, hl, hf⟩ := Option.map_eq_some_iff.mp hf
      cases hf
      obtain ⟨v, hv, rv⟩ := er.get i _ hks
      cases rv with
      | @dic a kvs _ h1 n1 k1 r1 =>
        have dl := DL.of k1 r1
        have hlk : kvs.length = ks.length := dl.length
        refine ⟨a, _, h1, trivial, fun od => ?_⟩
        have hij' : j ≠ i := fun z => hij z.symm
        have hjs : j < σ.length := by rw [er.len]; exact hj
        refine ⟨.ref a, hv, a, od, rfl, .inl ⟨kvs, upd_same, fun p hp => ?_⟩⟩
        have hpa : p ≠ a := fun z => by rw [z, upd_same] at hp; cases hp
        have hp0 : H p = none := by rw [upd_ne hpa] at hp; exact hp
        refine ⟨fun i' n Hc => n = kvs.length - i' ∧ i' ≤ kvs.length ∧ ∃ acc outs rest, (∀ b o, H b = some o → b ≠ a → Hc b = some o) ∧ Hc a = some (.frz od (.dK kvs)) ∧ Hc p = some (.lst acc) ∧ acc.length ≤ i' ∧
          Paired (fun (x : V) (d : D) => ∃ T k v d', x = .ref T ∧ Hc T = some (.tup [kV k, v]) ∧ d = .tup [kD k, d'] ∧ Rp K m H v d') acc outs ∧ usbD w ks (ks.drop i') = some rest ∧ ds = outs ++ rest,
          ⟨kvs.length, by simp, Nat.zero_le _, [], [], ds, fun b o hb hne => ?_, ?_, upd_same, by simp, .nil, by simpa using hl, by simp⟩, ?_⟩
        · rw [upd_ne (ne_of_none hb hp0), upd_ne hne]; exact hb
        · rw [upd_ne (fun z => hpa z.symm), upd_same]
        rintro i' n Hc ⟨rfl, hle, acc, outs, rest, kp, ha, hacc, hal, hpr, hu, hds⟩
        by_cases hi' : i' < kvs.length
        · obtain ⟨⟨k, v0⟩, hkv⟩ := lt_get hi'
          obtain ⟨⟨k', d0⟩, hkd⟩ := lt_get (l := ks) (i := i') (by omega)
          have ekk : k' = k := by
            have e1 : (kvs.map (·.1))[i']? = some k := by rw [List.getElem?_map, hkv]; rfl
            have e2 : (ks.map (·.1))[i']? = some k' := by rw [List.getElem?_map, hkd]; rfl
            rw [k1, e2] at e1
            exact Option.some.inj e1
          subst ekk
          have hdr : ks.drop i' = (k', d0) :: ks.drop (i' + 1) := by
            have hlt : i' < ks.length := by omega
            have e3 : ks[i'] = (k', d0) := by
              rw [List.getElem?_eq_getElem hlt] at hkd
              exact Option.some.inj hkd
            rw [List.drop_eq_getElem_cons hlt, e3]
          rw [hdr] at hu
          simp only [usbD] at hu
          obtain ⟨d, hd1', hu⟩ := Option.bind_eq_some_iff.mp hu
          obtain ⟨b, hd2, hu⟩ := Option.bind_eq_some_iff.mp hu
          obtain ⟨l2, hd3, hu⟩ := Option.map_eq_some_iff.mp hu
          subst hu
          rcases dl.val k' with ⟨z, _⟩ | ⟨d', v', z1, z2, r3⟩
          · rw [hd1'] at z; cases z
          rw [hd1'] at z1
          cases z1
          refine .inr ⟨⟨ha, hi'⟩, _, fun H' h => ⟨kvs.length - (i' + 1), by omega, h⟩, fun x Hx y => ?_⟩
          obtain ⟨ey, k2, v2, hk2, ex⟩ := y
          rw [ey]
          rw [hkv] at hk2
          cases hk2
          subst ex
          have s1 : ((σ.set j none).set j (some (kV k')))[j]? = some (some (kV k')) := List.getElem?_set_self (by rw [List.length_set]; exact hjs)
          have s2 : ((σ.set j none).set j (some (kV k')))[i]? = some (some (.ref a)) := by rw [List.getElem?_set_ne hij', List.getElem?_set_ne hij']; exact hv
          have dg : DGet Hc a (kV k') (some v') := .inl ⟨kvs, k', .inr ⟨od, ha⟩, rfl, z2.symm⟩
          refine ⟨?_, ?_⟩
          · show (((σ.set j none).set j (some (kV k'))).set j none) = σ.set j none
            rw [List.set_set, List.set_set]
          · -- the test
            obtain ⟨z, r, rfl, rfl⟩ := hd1_inv hd2
            · cases r3 with
              | @tup T xs _ t1 t2 =>
                cases t2 with
                | @cons u1 us _ _ q1 t2 =>
                  cases q1
                  have t3 : SqT K Hc T (.str z :: us) := by
                    have ne : ∀ u, H T = some u → (∀ kv, u ≠ .dK kv) → T ≠ a := fun u hu hn e => by rw [e, h1] at hu; exact hn _ (Option.some.inj hu).symm
                    rcases t1 with (t1 | ⟨o, t1⟩) | t1
                    · exact .inl (.inl (kp _ _ t1 (ne _ t1 fun _ z => nomatch z)))
                    · exact .inl (.inr ⟨o, kp _ _ t1 (ne _ t1 fun _ z => nomatch z)⟩)
                    · exact .inr t1
                  refine ⟨.ref a, s2, kV k', s1, a, _, rfl, dg, .inr (.inl ⟨_, _, _, .str z, rfl, rfl, t3, (show atI (V.str z :: us) ((0 : Nat) : Int) = some (V.str z) from atI_nat rfl), .inl ⟨rfl, _, rfl, ?_⟩⟩)⟩
                  rw [str_dec]
                  cases hb : decide (z = w) with
                  | false =>
                    simp only [hb, Bool.not_false, if_true] at hds ⊢
                    refine ⟨kV k', s1, .ref a, s2, kV k', s1, a, _, rfl, dg, by show 2 ≤ sizeLine; decide, fun T2 hT2 => ?_⟩
                    have hne : ∀ b o, Hc b = some o → b ≠ T2 := fun b o hb e => by rw [e, hT2] at hb; cases hb
                    have hpT : p ≠ T2 := hne _ _ hacc
                    refine ⟨acc, by rw [upd_ne hpT]; exact hacc, small_acc (by omega), trivial, hi', acc ++ [.ref T2], outs ++ [.tup [kD k', .tup (.str z :: r)]], l2, fun b o hb hne' => ?_, ?_, upd_same, by rw [List.length_append, List.length_singleton]; omega, ?_, hd3, by rw [hds, List.append_assoc]; rfl⟩
                    · have h5 := kp b o hb hne'
                      rw [upd_ne (fun e => by rw [e] at hb; rw [hp0] at hb; cases hb), upd_ne (hne _ _ h5)]
                      exact h5
                    · rw [upd_ne (fun e => hpa e.symm), upd_ne (hne _ _ ha)]; exact ha
                    · refine Paired.snoc (pair_imp (fun x d ⟨T3, k3, v3, d3, e1, e2, e3, e4⟩ => ⟨T3, k3, v3, d3, e1, ?_, e3, e4⟩) hpr) ⟨T2, k', _, _, rfl, ?_, rfl, .tup t1 (.cons (.str z) t2)⟩
                      · rw [upd_ne (fun e => hpT e.symm), upd_same]
                      · rw [upd_ne (fun e => by rw [e, hacc] at e2; cases e2), upd_ne (hne _ _ e2)]; exact e2
                  | true =>
                    simp only [hb, Bool.not_true, Bool.false_eq_true, if_false] at hds ⊢
                    exact ⟨trivial, hi', acc, outs, l2, kp, ha, hacc, by omega, hpr, hd3, hds⟩
        · have hi2 : i' = kvs.length := by omega
          subst hi2
          refine .inl ⟨⟨ha, Nat.le_refl _⟩, ha, ?_⟩
          rw [hlk, List.drop_length] at hu
          cases hu
          rw [List.append_nil] at hds
          subst hds
          have ev : Ev m H m (upd Hc a (.dK kvs)) := by
            have kp' : ∀ b o, H b = some o → upd Hc a (.dK kvs) b = some o := fun b o hb => by
              by_cases e : b = a
              · rw [e, h1] at hb; cases hb; rw [e, upd_same]
              · rw [upd_ne e]; exact kp b o hb e
            exact ⟨⟨[], by simp⟩, rfl, fun _ h => .inl h, fun b o hb _ => kp' b o hb, fun b xs hb => kp' b _ hb, fun b o u hb => kp' b _ hb⟩
          refine q p acc m _ ev hp0 (by rw [upd_ne hpa]; exact hacc) ⟨sr.nd, sr.len, fun n x ob h3 h4 => ?_, fun b hb => ?_, fun b hb => ?_⟩ ?_
          · have ro := sr.obj n x ob h3 h4
            obtain ⟨u, hu⟩ := ro.some
            have hxa : x ≠ a := fun e => n1 (.inl (by rw [← e]; exact List.mem_of_getElem? h3))
            exact ro.mp (by rw [upd_ne hxa, kp x u hu hxa, hu]) (RpAll.hide hp0 ev)
          · rcases List.mem_cons.mp hb with e | e
            · rw [e, upd_ne hpa, hacc]; exact fun z => nomatch z
            · have h5 := sr.hid b e
              cases h6 : H b with
              | none => exact absurd h6 h5
              | some u =>
                have hba : b ≠ a := fun e' => n1 (.inr (by rw [← e']; exact e))
                rw [upd_ne hba, kp b u h6 hba]
                exact fun z => nomatch z
          · rcases List.mem_cons.mp hb with e | e
            · rw [e]; exact sr.notl hp0
            · exact sr.apt b e
          · exact usb_rp hp0 ha ev hpr
    · cases hf
  · cases hf
theorem rl_usb {elt it : Expr} {ifs : List Expr} {scope : Scope} {x : Str} {fi : E} (i j : Nat) (w : Str) (hij : i ≠ j) (hc : X.calm = true) (hN : X.N.Nodup) (hi : RE X C it (tVar i) fi) (ok : BlkOk X.N X.env.scope scope [(x, j)])
    (hg : ∀ (s : Shared) (H : Hp) (C' : Addr) (cl : List (Str × Addr)) (fp : List Addr), ∃ gd, RG (X.blk s H scope (compEnvC scope cl C' X.env) fp) C tg (gName j) gd [j])
    (ht : ∀ (s : Shared) (H : Hp) (C' : Addr) (cl : List (Str × Addr)) (fp : List Addr), ∃ cf, RTs (X.blk s H scope (compEnvC scope cl C' X.env) fp) C ifs (tTest (tOp (rNeX X.K 64) (tOp (rIx X.K) (tDGet (tVar i) (tVar j)) (tC (.int 0))) (tC (.str w)))) cf)
    (he : ∀ (s : Shared) (H : Hp) (C' : Addr) (cl : List (Str × Addr)) (fp : List Addr), ∃ f, RE (X.blk s H scope (compEnvC scope cl C' X.env) fp) C elt (tTup (tCons (tVar j) (tCons (tDGet (tVar i) (tVar j)) tNil))) f) (hs : ∀ x, foldedSetIterable it X.env x = pure x := by intro _; rfl) :
    RL X C (.ListComp elt [⟨tg, it, ifs, 0⟩] scope pos) (tUsb X.K i j w) (aUsb i j w) :=
  ⟨pe_lock (pe_lc hc hN (pi_keys hi.p) ok (fun s H C' cl fp => (hg s H C' cl fp).elim fun _ h => h.p) (fun s H C' cl fp => (ht s H C' cl fp).elim fun _ h => h.p) (fun s H C' cl fp => (he s H C' cl fp).elim fun _ h => h.p) hs), s_usb i j w hij⟩
end
end Cb
namespace Cb
open PySem PySem.Spec PyProof.Rows L2

/-! ## pieces, plain -/
mutual
inductive Pc where
  | num (n : Int) | name (x : Str) | fn (a : Int) (x : Str) (b : Pc) | call (a : Int) (f g : Pc) | plus (a : Int) (f g : Pc) | pick (a : Int) (c f g : Pc)
  | rnd (b : Pc) | take (a : Int) (x : Str) (b : Pc) | shut (a : Int) (x : Str) (b : Pc) | kept (a : Int) (fs : List Fr)
inductive Fr where
  | caller (a : Int) (p : Pc) | given (a : Int) (v : Pc) | adder (a : Int) (p : Pc) | added (a : Int) (v : Pc) | picker (a : Int) (p q : Pc) | rnd
end
mutual
def Pc.d : Pc → D
  | .num n => .tup [.str "num", .int n]
  | .name x => .tup [.str "name", .str x]
  | .fn a x b => .tup [.str "fun", .int a, .str x, b.d]
  | .call a f g => .tup [.str "call", .int a, f.d, g.d]
  | .plus a f g => .tup [.str "plus", .int a, f.d, g.d]
  | .pick a c f g => .tup [.str "pick", .int a, c.d, f.d, g.d]
  | .rnd b => .tup [.str "round", b.d]
  | .take a x b => .tup [.str "take", .int a, .str x, b.d]
  | .shut a x b => .tup [.str "shut", .int a, .str x, b.d]
  | .kept a fs => .tup [.str "kept", .int a, .tup (Fr.ds fs)]
def Fr.d : Fr → D
  | .caller a p => .tup [.str "caller", .int a, p.d]
  | .given a p => .tup [.str "given", .int a, p.d]
  | .adder a p => .tup [.str "adder", .int a, p.d]
  | .added a p => .tup [.str "added", .int a, p.d]
  | .picker a p q => .tup [.str "picker", .int a, p.d, q.d]
  | .rnd => .tup [.str "round"]
def Fr.ds : List Fr → List D
  | [] => []
  | f :: fs => f.d :: Fr.ds fs
end
def Pc.isV : Pc → Bool
  | .num _ | .shut .. | .kept .. => true
  | _ => false
def put (x : Str) (v : Pc) : Pc → Pc
  | .num n => .num n
  | .name y => if y = x then v else .name y
  | .fn a y b => if y = x then .fn a y b else .fn a y (put x v b)
  | .call a f g => .call a (put x v f) (put x v g)
  | .plus a f g => .plus a (put x v f) (put x v g)
  | .pick a c f g => .pick a (put x v c) (put x v f) (put x v g)
  | .rnd b => .rnd (put x v b)
  | .take a y b => if y = x then .take a y b else .take a y (put x v b)
  | .shut a y b => .shut a y b
  | .kept a fs => .kept a fs
/-- how deep a piece is, but for what stands in values -/
def cd : Pc → Nat
  | .num _ | .name _ | .shut .. | .kept .. => 1
  | .fn _ _ b => cd b + 1
  | .call _ f g => max (cd f) (cd g) + 1
  | .plus _ f g => max (cd f) (cd g) + 1
  | .pick _ c f g => max (cd c) (max (cd f) (cd g)) + 1
  | .rnd b => cd b + 1
  | .take _ _ b => cd b + 1

theorem ofString_inj {a b : String} : (Str.ofString a = Str.ofString b) ↔ a = b := by
  constructor
  · intro h
    rw [Str.ofString_eq_toList, Str.ofString_eq_toList] at h
    have h1 : (a.toList.map Char.toNat).toArray = (b.toList.map Char.toNat).toArray := by injection h
    have h2 : a.toList.map Char.toNat = b.toList.map Char.toNat := by simpa using h1
    have h3 : a.toList = b.toList := by
      have inj : ∀ (l l' : List Char), l.map Char.toNat = l'.map Char.toNat → l = l' := by
        intro l
        induction l with
        | nil => intro l' h; cases l' with | nil => rfl | cons _ _ => simp at h
        | cons c l ih =>
          intro l' h
          cases l' with
          | nil => simp at h
          | cons c' l' =>
            simp only [List.map_cons, List.cons.injEq] at h
            have : c = c' := Char.ext (UInt32.toNat_inj.mp h.1)
            rw [this, ih l' h.2]
      exact inj _ _ h2
    exact String.ext_iff.mpr h3
  · intro h; rw [h]
theorem ofString_beq {a b : String} : (Str.ofString a == Str.ofString b) = decide (a = b) := by
  rw [Bool.eq_iff_iff, beq_iff_eq, decide_eq_true_iff]
  exact ofString_inj
end Cb
namespace Cb
open PySem PySem.Spec PyProof.Rows L2
/-! ## runs, step by step: equations that fire only where the part ahead is known -/
def varK (o : Option (Option D)) (S : List O) : Option (D × List O) := match o with | some (some d) => some (d, S) | _ => none
theorem varK_1 {S : List O} {d : D} : varK (some (some d)) S = some (d, S) := id rfl
theorem eVar_u {i : Nat} {δ : Sl} {S : List O} : eVar i δ S = varK (δ[i]?) S := id rfl
theorem eC_u {d : D} {δ : Sl} {S : List O} : eC d δ S = some (d, S) := id rfl
theorem aNil_u {δ : Sl} {S : List O} : aNil δ S = some ([], S) := id rfl
def acK2 (d : D) (o : Option (List D × List O)) : Option (List D × List O) := match o with | some (ds, S) => some (d :: ds, S) | none => none
def acK1 (g : A) (δ : Sl) (o : Option (D × List O)) : Option (List D × List O) := match o with | some (d, S) => acK2 d (g δ S) | none => none
theorem acK1_1 {g : A} {δ : Sl} {d : D} {S : List O} : acK1 g δ (some (d, S)) = acK2 d (g δ S) := id rfl
theorem acK2_1 {d : D} {ds : List D} {S : List O} : acK2 d (some (ds, S)) = some (d :: ds, S) := id rfl
theorem aCons_u {f : E} {g : A} {δ : Sl} {S : List O} : aCons f g δ S = acK1 g δ (f δ S) := by unfold aCons acK1; cases f δ S with | none => rfl | some p => (obtain ⟨d, S1⟩ := p; show ((g δ S1).bind _) = acK2 d (g δ S1); cases g δ S1 <;> rfl)
def tupK (o : Option (List D × List O)) : Option (D × List O) := match o with | some (ds, S) => if ds.length ≤ 1000 then some (.tup ds, S) else none | none => none
theorem tupK_1 {ds : List D} {S : List O} : tupK (some (ds, S)) = if ds.length ≤ 1000 then some (.tup ds, S) else none := id rfl
theorem eTup_u {g : A} {δ : Sl} {S : List O} : eTup g δ S = tupK (g δ S) := by unfold eTup; cases g δ S <;> rfl
def ldK (o : Option (List D × List O)) : Option (List D × List O) := match o with | some (ds, S) => if ds.length ≤ 1000 then some (ds, S) else none | none => none
theorem ldK_1 {ds : List D} {S : List O} : ldK (some (ds, S)) = if ds.length ≤ 1000 then some (ds, S) else none := id rfl
theorem lDisp_u {g : A} {δ : Sl} {S : List O} : lDisp g δ S = ldK (g δ S) := by unfold lDisp; cases g δ S <;> rfl
def eLK (o : Option (List D × List O)) : Option (D × List O) := match o with | some (ds, S) => some (.lst ds, S) | none => none
def eLMK (o : Option (List D × List O)) : Option (D × List O) := match o with | some (ds, S) => some (.ref S.length, S ++ [.lst ds]) | none => none
theorem eLK_1 {ds : List D} {S : List O} : eLK (some (ds, S)) = some (.lst ds, S) := id rfl
theorem eLMK_1 {ds : List D} {S : List O} : eLMK (some (ds, S)) = some (.ref S.length, S ++ [.lst ds]) := id rfl
theorem eL_u {g : A} {δ : Sl} {S : List O} : eL g δ S = eLK (g δ S) := by unfold eL; cases g δ S <;> rfl
theorem eLM_u {g : A} {δ : Sl} {S : List O} : eLM g δ S = eLMK (g δ S) := by unfold eLM; cases g δ S <;> rfl
def eDiK (o : Option (List (Key × D) × List O)) : Option (D × List O) := match o with | some (ds, S) => some (.dic ds, S) | none => none
def eDMK (o : Option (List (Key × D) × List O)) : Option (D × List O) := match o with | some (ds, S) => some (.ref S.length, S ++ [.dic ds]) | none => none
theorem eDiK_1 {ds : List (Key × D)} {S : List O} : eDiK (some (ds, S)) = some (.dic ds, S) := id rfl
theorem eDMK_1 {ds : List (Key × D)} {S : List O} : eDMK (some (ds, S)) = some (.ref S.length, S ++ [.dic ds]) := id rfl
theorem eDi_u {g : DD} {δ : Sl} {S : List O} : eDi g δ S = eDiK (g δ S) := by unfold eDi; cases g δ S <;> rfl
theorem eDM_u {g : DD} {δ : Sl} {S : List O} : eDM g δ S = eDMK (g δ S) := by unfold eDM; cases g δ S <;> rfl
def opK3 (S : List O) (o : Option D) : Option (D × List O) := match o with | some d => some (d, S) | none => none
def opK2 (g : Op2) (d : D) (o : Option (D × List O)) : Option (D × List O) := match o with | some (e, S) => opK3 S (g d e S) | none => none
def opK1 (g : Op2) (f : E) (δ : Sl) (o : Option (D × List O)) : Option (D × List O) := match o with | some (d, S) => opK2 g d (f δ S) | none => none
theorem opK1_1 {g : Op2} {f : E} {δ : Sl} {d : D} {S : List O} : opK1 g f δ (some (d, S)) = opK2 g d (f δ S) := id rfl
theorem opK2_1 {g : Op2} {d e : D} {S : List O} : opK2 g d (some (e, S)) = opK3 S (g d e S) := id rfl
theorem opK3_1 {d : D} {S : List O} : opK3 S (some d) = some (d, S) := id rfl
theorem eOp_u {g : Op2} {f1 f2 : E} {δ : Sl} {S : List O} : eOp g f1 f2 δ S = opK1 g f2 δ (f1 δ S) := by unfold eOp opK1; cases f1 δ S with | none => rfl | some p => (obtain ⟨d, S1⟩ := p; show ((f2 δ S1).bind _) = opK2 g d (f2 δ S1); cases f2 δ S1 with | none => rfl | some q => (obtain ⟨e, S2⟩ := q; show ((g d e S2).bind _) = opK3 S2 (g d e S2); cases g d e S2 <;> rfl))
def negK (o : Option (D × List O)) : Option (D × List O) := match o with | some (.int i, S) => some (.int (-i), S) | _ => none
theorem negK_1 {i : Int} {S : List O} : negK (some (.int i, S)) = some (.int (-i), S) := id rfl
theorem eNeg_u {f : E} {δ : Sl} {S : List O} : eNeg f δ S = negK (f δ S) := by unfold eNeg; cases f δ S with | none => rfl | some p => (obtain ⟨d, S1⟩ := p; cases d <;> rfl)
def slK4 (S : List O) (o : Option D) : Option (D × List O) := match o with | some d => some (d, S) | none => none
def slK3 (d : D) (l : Option Int) (o : Option (Option Int × List O)) : Option (D × List O) := match o with | some (h, S) => slK4 S (dSlice d l h S) | none => none
def slK2 (d : D) (hi : Pt) (δ : Sl) (o : Option (Option Int × List O)) : Option (D × List O) := match o with | some (l, S) => slK3 d l (hi δ S) | none => none
def slK1 (lo hi : Pt) (δ : Sl) (o : Option (D × List O)) : Option (D × List O) := match o with | some (d, S) => slK2 d hi δ (lo δ S) | none => none
def ptSK (o : Option (D × List O)) : Option (Option Int × List O) := match o with | some (.int i, S) => some (some i, S) | _ => none
theorem slK1_1 {lo hi : Pt} {δ : Sl} {d : D} {S : List O} : slK1 lo hi δ (some (d, S)) = slK2 d hi δ (lo δ S) := id rfl
theorem slK2_1 {hi : Pt} {δ : Sl} {d : D} {l : Option Int} {S : List O} : slK2 d hi δ (some (l, S)) = slK3 d l (hi δ S) := id rfl
theorem slK3_1 {d : D} {l h : Option Int} {S : List O} : slK3 d l (some (h, S)) = slK4 S (dSlice d l h S) := id rfl
theorem slK4_1 {d : D} {S : List O} : slK4 S (some d) = some (d, S) := id rfl
theorem ptSK_1 {i : Int} {S : List O} : ptSK (some (.int i, S)) = some (some i, S) := id rfl
theorem ptN_u {δ : Sl} {S : List O} : ptN δ S = some (none, S) := id rfl
theorem ptS_u {f : E} {δ : Sl} {S : List O} : ptS f δ S = ptSK (f δ S) := by unfold ptS; cases f δ S with | none => rfl | some p => (obtain ⟨d, S1⟩ := p; cases d <;> rfl)
theorem eSlice_u {f : E} {lo hi : Pt} {δ : Sl} {S : List O} : eSlice f lo hi δ S = slK1 lo hi δ (f δ S) := by unfold eSlice slK1; cases f δ S with | none => rfl | some p => (obtain ⟨d, S1⟩ := p; show ((lo δ S1).bind _) = slK2 d hi δ (lo δ S1); cases lo δ S1 with | none => rfl | some q => (obtain ⟨l, S2⟩ := q; show ((hi δ S2).bind _) = slK3 d l (hi δ S2); cases hi δ S2 with | none => rfl | some r => (obtain ⟨h, S3⟩ := r; show ((dSlice d l h S3).bind _) = slK4 S3 (dSlice d l h S3); cases dSlice d l h S3 <;> rfl)))
def callK (n : Nat) (F : Fn) (o : Option (List D × List O)) : Option (D × List O) := match o with | some (ds, S) => if ds.length = n then F ds S else none | none => none
theorem callK_1 {n : Nat} {F : Fn} {ds : List D} {S : List O} : callK n F (some (ds, S)) = if ds.length = n then F ds S else none := id rfl
theorem eCall_u {n : Nat} {F : Fn} {g : A} {δ : Sl} {S : List O} : eCall n F g δ S = callK n F (g δ S) := by unfold eCall; cases g δ S <;> rfl
def biK (k : Bi) (o : Option (List D × List O)) : Option (D × List O) := match o with | some (ds, S) => opK3 S (k ds S) | none => none
def blK2 (S : List O) (o : Option (List D)) : Option (List D × List O) := match o with | some d => some (d, S) | none => none
def blK (k : Bl) (o : Option (List D × List O)) : Option (List D × List O) := match o with | some (ds, S) => blK2 S (k ds S) | none => none
theorem biK_1 {k : Bi} {ds : List D} {S : List O} : biK k (some (ds, S)) = opK3 S (k ds S) := id rfl
theorem blK_1 {k : Bl} {ds : List D} {S : List O} : blK k (some (ds, S)) = blK2 S (k ds S) := id rfl
theorem blK2_1 {ds : List D} {S : List O} : blK2 S (some ds) = some (ds, S) := id rfl
theorem eBi_u {k : Bi} {g : A} {δ : Sl} {S : List O} : eBi k g δ S = biK k (g δ S) := by unfold eBi; cases g δ S with | none => rfl | some p => (obtain ⟨ds, S1⟩ := p; show ((k ds S1).bind _) = opK3 S1 (k ds S1); cases k ds S1 <;> rfl)
theorem lBi_u {k : Bl} {g : A} {δ : Sl} {S : List O} : lBi k g δ S = blK k (g δ S) := by unfold lBi; cases g δ S with | none => rfl | some p => (obtain ⟨ds, S1⟩ := p; show ((k ds S1).bind _) = blK2 S1 (k ds S1); cases k ds S1 <;> rfl)
def isiK2 (S : List O) (o : Option Bool) : Option (D × List O) := match o with | some b => some (.bl b, S) | none => none
def isiK (T : String) (o : Option (D × List O)) : Option (D × List O) := match o with | some (d, S) => isiK2 S (isD T S d) | none => none
theorem isiK_1 {T : String} {d : D} {S : List O} : isiK T (some (d, S)) = isiK2 S (isD T S d) := id rfl
theorem isiK2_1 {b : Bool} {S : List O} : isiK2 S (some b) = some (.bl b, S) := id rfl
theorem eIsi_u {T : String} {f : E} {δ : Sl} {S : List O} : eIsi T f δ S = isiK T (f δ S) := by unfold eIsi; cases f δ S with | none => rfl | some p => (obtain ⟨d, S1⟩ := p; show ((isD T S1 d).bind _) = isiK2 S1 (isD T S1 d); cases isD T S1 d <;> rfl)
def revK2 (S : List O) (o : Option (List D)) : Option (List D × List O) := match o with | some ds => some (ds.reverse, S) | none => none
def revK (o : Option (D × List O)) : Option (List D × List O) := match o with | some (d, S) => revK2 S (seqL S d) | none => none
theorem revK_1 {d : D} {S : List O} : revK (some (d, S)) = revK2 S (seqL S d) := id rfl
theorem revK2_1 {ds : List D} {S : List O} : revK2 S (some ds) = some (ds.reverse, S) := id rfl
theorem lRev_u {f : E} {δ : Sl} {S : List O} : lRev f δ S = revK (f δ S) := by unfold lRev; cases f δ S with | none => rfl | some p => (obtain ⟨d, S1⟩ := p; show ((seqL S1 d).bind _) = revK2 S1 (seqL S1 d); cases seqL S1 d <;> rfl)
def andEK (g : E) (δ : Sl) (o : Option (D × List O)) : Option (D × List O) := match o with | some (.bl true, S) => g δ S | some (.bl false, S) => some (.bl false, S) | _ => none
def orEK (g : E) (δ : Sl) (o : Option (D × List O)) : Option (D × List O) := match o with | some (.bl true, S) => some (.bl true, S) | some (.bl false, S) => g δ S | _ => none
def notEK (o : Option (D × List O)) : Option (D × List O) := match o with | some (.bl b, S) => some (.bl (!b), S) | _ => none
def orSK (g : E) (δ : Sl) (o : Option (D × List O)) : Option (D × List O) := match o with | some (.str x, S) => if x.length ≤ sizeLine then (if (x.length : Int) != 0 then some (.str x, S) else g δ S) else none | _ => none
def ifEK (g h : E) (δ : Sl) (o : Option (Bool × List O)) : Option (D × List O) := match o with | some (true, S) => g δ S | some (false, S) => h δ S | none => none
def tofK (o : Option (D × List O)) : Option (Bool × List O) := match o with | some (.bl b, S) => some (b, S) | _ => none
theorem andEK_1 {g : E} {δ : Sl} {S : List O} : andEK g δ (some (.bl true, S)) = g δ S := id rfl
theorem andEK_2 {g : E} {δ : Sl} {S : List O} : andEK g δ (some (.bl false, S)) = some (.bl false, S) := id rfl
theorem orEK_1 {g : E} {δ : Sl} {S : List O} : orEK g δ (some (.bl true, S)) = some (.bl true, S) := id rfl
theorem orEK_2 {g : E} {δ : Sl} {S : List O} : orEK g δ (some (.bl false, S)) = g δ S := id rfl
theorem notEK_1 {b : Bool} {S : List O} : notEK (some (.bl b, S)) = some (.bl (!b), S) := id rfl
theorem orSK_1 {g : E} {δ : Sl} {x : Str} {S : List O} : orSK g δ (some (.str x, S)) = if x.length ≤ sizeLine then (if (x.length : Int) != 0 then some (.str x, S) else g δ S) else none := id rfl
theorem ifEK_1 {g h : E} {δ : Sl} {S : List O} : ifEK g h δ (some (true, S)) = g δ S := id rfl
theorem ifEK_2 {g h : E} {δ : Sl} {S : List O} : ifEK g h δ (some (false, S)) = h δ S := id rfl
theorem tofK_1 {b : Bool} {S : List O} : tofK (some (.bl b, S)) = some (b, S) := id rfl
theorem eAnd_u {f g : E} {δ : Sl} {S : List O} : eAnd f g δ S = andEK g δ (f δ S) := by unfold eAnd; cases f δ S with | none => rfl | some p => (obtain ⟨d, S1⟩ := p; cases d with | bl b => cases b <;> rfl | _ => rfl)
theorem eOr_u {f g : E} {δ : Sl} {S : List O} : eOr f g δ S = orEK g δ (f δ S) := by unfold eOr; cases f δ S with | none => rfl | some p => (obtain ⟨d, S1⟩ := p; cases d with | bl b => cases b <;> rfl | _ => rfl)
theorem eNot_u {f : E} {δ : Sl} {S : List O} : eNot f δ S = notEK (f δ S) := by unfold eNot; cases f δ S with | none => rfl | some p => (obtain ⟨d, S1⟩ := p; cases d <;> rfl)
theorem eOrS_u {f g : E} {δ : Sl} {S : List O} : eOrS f g δ S = orSK g δ (f δ S) := by unfold eOrS; cases f δ S with | none => rfl | some p => (obtain ⟨d, S1⟩ := p; cases d <;> rfl)
theorem eIf_u {f : T} {g h : E} {δ : Sl} {S : List O} : eIf f g h δ S = ifEK g h δ (f δ S) := by unfold eIf; cases f δ S with | none => rfl | some p => (obtain ⟨b, S1⟩ := p; cases b <;> rfl)
theorem tOf_u {f : E} {δ : Sl} {S : List O} : tOf f δ S = tofK (f δ S) := by unfold tOf; cases f δ S with | none => rfl | some p => (obtain ⟨d, S1⟩ := p; cases d <;> rfl)
def chK5 (S : List O) (o : Option D) : Option (D × List O) := opK3 S o
def chK4 (g : Op2) (d : D) (o : Option (D × List O)) : Option (D × List O) := opK2 g d o
def chK3 (g : Op2) (f : E) (d : D) (δ : Sl) (S : List O) (o : Option D) : Option (D × List O) := match o with | some (.bl true) => opK2 g d (f δ S) | some (.bl false) => some (.bl false, S) | _ => none
def chK2 (g1 g2 : Op2) (f3 : E) (d1 : D) (δ : Sl) (o : Option (D × List O)) : Option (D × List O) := match o with | some (d2, S) => chK3 g2 f3 d2 δ S (g1 d1 d2 S) | none => none
def chK1 (g1 g2 : Op2) (f2 f3 : E) (δ : Sl) (o : Option (D × List O)) : Option (D × List O) := match o with | some (d1, S) => chK2 g1 g2 f3 d1 δ (f2 δ S) | none => none
theorem chK1_1 {g1 g2 : Op2} {f2 f3 : E} {δ : Sl} {d : D} {S : List O} : chK1 g1 g2 f2 f3 δ (some (d, S)) = chK2 g1 g2 f3 d δ (f2 δ S) := id rfl
theorem chK2_1 {g1 g2 : Op2} {f3 : E} {δ : Sl} {d1 d2 : D} {S : List O} : chK2 g1 g2 f3 d1 δ (some (d2, S)) = chK3 g2 f3 d2 δ S (g1 d1 d2 S) := id rfl
theorem chK3_1 {g : Op2} {f : E} {δ : Sl} {d : D} {S : List O} : chK3 g f d δ S (some (.bl true)) = opK2 g d (f δ S) := id rfl
theorem chK3_2 {g : Op2} {f : E} {δ : Sl} {d : D} {S : List O} : chK3 g f d δ S (some (.bl false)) = some (.bl false, S) := id rfl
theorem eChain_u {g1 g2 : Op2} {f1 f2 f3 : E} {δ : Sl} {S : List O} : eChain g1 g2 f1 f2 f3 δ S = chK1 g1 g2 f2 f3 δ (f1 δ S) := by
  unfold eChain chK1
  cases f1 δ S with
  | none => rfl
  | some p =>
    obtain ⟨d, S1⟩ := p
    show ((f2 δ S1).bind _) = chK2 g1 g2 f3 d δ (f2 δ S1)
    cases f2 δ S1 with
    | none => rfl
    | some q =>
      obtain ⟨e, S2⟩ := q
      show ((g1 d e S2).bind _) = chK3 g2 f3 e δ S2 (g1 d e S2)
      cases g1 d e S2 with
      | none => rfl
      | some r =>
        cases r with
        | bl b =>
          cases b with
          | false => rfl
          | true =>
            show ((f3 δ S2).bind _) = opK2 g2 e (f3 δ S2)
            cases f3 δ S2 with
            | none => rfl
            | some t =>
              obtain ⟨z, S3⟩ := t
              show ((g2 e z S3).bind _) = opK3 S3 (g2 e z S3)
              cases g2 e z S3 <;> rfl
        | _ => rfl
def tandK (g : T) (δ : Sl) (o : Option (Bool × List O)) : Option (Bool × List O) := match o with | some (true, S) => g δ S | some (false, S) => some (false, S) | none => none
def torK (g : T) (δ : Sl) (o : Option (Bool × List O)) : Option (Bool × List O) := match o with | some (true, S) => some (true, S) | some (false, S) => g δ S | none => none
def tnotK (o : Option (Bool × List O)) : Option (Bool × List O) := match o with | some (b, S) => some (!b, S) | none => none
theorem tandK_1 {g : T} {δ : Sl} {S : List O} : tandK g δ (some (true, S)) = g δ S := id rfl
theorem tandK_2 {g : T} {δ : Sl} {S : List O} : tandK g δ (some (false, S)) = some (false, S) := id rfl
theorem torK_1 {g : T} {δ : Sl} {S : List O} : torK g δ (some (true, S)) = some (true, S) := id rfl
theorem torK_2 {g : T} {δ : Sl} {S : List O} : torK g δ (some (false, S)) = g δ S := id rfl
theorem tnotK_1 {b : Bool} {S : List O} : tnotK (some (b, S)) = some (!b, S) := id rfl
theorem tTrue_u {δ : Sl} {S : List O} : tTrue δ S = some (true, S) := id rfl
theorem tfAnd_u {f g : T} {δ : Sl} {S : List O} : tfAnd f g δ S = tandK g δ (f δ S) := by unfold tfAnd; cases f δ S with | none => rfl | some p => (obtain ⟨b, S1⟩ := p; cases b <;> rfl)
theorem tfOr_u {f g : T} {δ : Sl} {S : List O} : tfOr f g δ S = torK g δ (f δ S) := by unfold tfOr; cases f δ S with | none => rfl | some p => (obtain ⟨b, S1⟩ := p; cases b <;> rfl)
theorem tfNot_u {f : T} {δ : Sl} {S : List O} : tfNot f δ S = tnotK (f δ S) := by unfold tfNot; cases f δ S <;> rfl
def lcK1 (gd : G) (c : T) (e : E) (δ : Sl) (o : Option (List D × List O)) : Option (List D × List O) := match o with | some (ds, S) => if ds.length ≤ 10000000 then lcD gd c e δ ds S else none | none => none
def lcK5 (d : D) (o : Option (List D × List O)) : Option (List D × List O) := match o with | some (ds, S) => some (d :: ds, S) | none => none
def lcK4 (gd : G) (c : T) (e : E) (δ : Sl) (ds : List D) (o : Option (D × List O)) : Option (List D × List O) := match o with | some (d, S) => lcK5 d (lcD gd c e δ ds S) | none => none
def lcK3 (gd : G) (c : T) (e : E) (δ δ1 : Sl) (ds : List D) (o : Option (Bool × List O)) : Option (List D × List O) := match o with | some (true, S) => lcK4 gd c e δ ds (e δ1 S) | some (false, S) => lcD gd c e δ ds S | none => none
def lcK2 (gd : G) (c : T) (e : E) (δ : Sl) (ds : List D) (S : List O) (o : Option Sl) : Option (List D × List O) := match o with | some δ1 => lcK3 gd c e δ δ1 ds (c δ1 S) | none => none
theorem lcK1_1 {gd : G} {c : T} {e : E} {δ : Sl} {ds : List D} {S : List O} : lcK1 gd c e δ (some (ds, S)) = if ds.length ≤ 10000000 then lcD gd c e δ ds S else none := id rfl
theorem lcK2_1 {gd : G} {c : T} {e : E} {δ δ1 : Sl} {ds : List D} {S : List O} : lcK2 gd c e δ ds S (some δ1) = lcK3 gd c e δ δ1 ds (c δ1 S) := id rfl
theorem lcK3_1 {gd : G} {c : T} {e : E} {δ δ1 : Sl} {ds : List D} {S : List O} : lcK3 gd c e δ δ1 ds (some (true, S)) = lcK4 gd c e δ ds (e δ1 S) := id rfl
theorem lcK3_2 {gd : G} {c : T} {e : E} {δ δ1 : Sl} {ds : List D} {S : List O} : lcK3 gd c e δ δ1 ds (some (false, S)) = lcD gd c e δ ds S := id rfl
theorem lcK4_1 {gd : G} {c : T} {e : E} {δ : Sl} {d : D} {ds : List D} {S : List O} : lcK4 gd c e δ ds (some (d, S)) = lcK5 d (lcD gd c e δ ds S) := id rfl
theorem lcK5_1 {d : D} {ds : List D} {S : List O} : lcK5 d (some (ds, S)) = some (d :: ds, S) := id rfl
theorem lcD_n {gd : G} {c : T} {e : E} {δ : Sl} {S : List O} : lcD gd c e δ [] S = some ([], S) := id rfl
theorem lcD_c {gd : G} {c : T} {e : E} {δ : Sl} {d : D} {ds : List D} {S : List O} : lcD gd c e δ (d :: ds) S = lcK2 gd c e δ ds S (gd d δ) := by
  show ((gd d δ).bind _) = lcK2 gd c e δ ds S (gd d δ)
  cases gd d δ with
  | none => rfl
  | some δ1 =>
    show ((c δ1 S).bind _) = lcK3 gd c e δ δ1 ds (c δ1 S)
    cases c δ1 S with
    | none => rfl
    | some p =>
      obtain ⟨b, S1⟩ := p
      cases b with
      | false => rfl
      | true =>
        show ((e δ1 S1).bind _) = lcK4 gd c e δ ds (e δ1 S1)
        cases e δ1 S1 with
        | none => rfl
        | some q =>
          obtain ⟨d2, S2⟩ := q
          show ((lcD gd c e δ ds S2).bind _) = lcK5 d2 (lcD gd c e δ ds S2)
          cases lcD gd c e δ ds S2 <;> rfl
theorem aLc_u {it : A} {gd : G} {c : T} {e : E} {vs : List Nat} {δ : Sl} {S : List O} : aLc it gd c e vs δ S = lcK1 gd c e (wipeD δ vs) (it δ S) := by unfold aLc; cases it δ S <;> rfl
theorem wipeD_n {δ : Sl} : wipeD δ [] = δ := id rfl
theorem wipeD_c {δ : Sl} {v : Nat} {vs : List Nat} : wipeD δ (v :: vs) = (wipeD δ vs).set v none := id rfl
theorem gdName_u {i : Nat} {d : D} {δ : Sl} : gdName i d δ = some (δ.set i (some d)) := id rfl
def gsK (gs : Gs) (ds : List D) (o : Option Sl) : Option Sl := match o with | some δ => gs ds δ | none => none
theorem gsK_1 {gs : Gs} {ds : List D} {δ : Sl} : gsK gs ds (some δ) = gs ds δ := id rfl
theorem gsNil_u {δ : Sl} : gsNil [] δ = some δ := id rfl
theorem gdTup_u {n : Nat} {gs : Gs} {ds : List D} {δ : Sl} : gdTup n gs (.tup ds) δ = if ds.length = n then gs ds δ else none := id rfl
theorem gsCons_u {g : G} {gs : Gs} {d : D} {ds : List D} {δ : Sl} : gsCons g gs (d :: ds) δ = gsK gs ds (g d δ) := by show ((g d δ).bind _) = gsK gs ds (g d δ); cases g d δ <;> rfl
def iseqK2 (S : List O) (o : Option (List D)) : Option (List D × List O) := match o with | some ds => some (ds, S) | none => none
def iseqK (o : Option (D × List O)) : Option (List D × List O) := match o with | some (d, S) => iseqK2 S (seqP d) | none => none
def itupK (o : Option (D × List O)) : Option (List D × List O) := match o with | some (.tup ds, S) => some (ds, S) | _ => none
def istrK (o : Option (D × List O)) : Option (List D × List O) := match o with | some (.str z, S) => some (z.cps.toList.map fun c => .str ⟨#[c]⟩, S) | _ => none
def irng1K (o : Option (List D × List O)) : Option (List D × List O) := match o with | some ([.int j], S) => if -(2 ^ 62) ≤ j ∧ j < 2 ^ 62 then some (rangeD 0 j, S) else none | _ => none
def irng2K (o : Option (List D × List O)) : Option (List D × List O) := match o with | some ([.int i, .int j], S) => if -(2 ^ 62) ≤ i ∧ i < 2 ^ 62 ∧ -(2 ^ 62) ≤ j ∧ j < 2 ^ 62 then some (rangeD i j, S) else none | _ => none
theorem iseqK_1 {d : D} {S : List O} : iseqK (some (d, S)) = iseqK2 S (seqP d) := id rfl
theorem iseqK2_1 {ds : List D} {S : List O} : iseqK2 S (some ds) = some (ds, S) := id rfl
theorem itupK_1 {ds : List D} {S : List O} : itupK (some (.tup ds, S)) = some (ds, S) := id rfl
theorem istrK_1 {z : Str} {S : List O} : istrK (some (.str z, S)) = some (z.cps.toList.map fun c => .str ⟨#[c]⟩, S) := id rfl
theorem irng1K_1 {j : Int} {S : List O} : irng1K (some ([.int j], S)) = if -(2 ^ 62) ≤ j ∧ j < 2 ^ 62 then some (rangeD 0 j, S) else none := id rfl
theorem irng2K_1 {i j : Int} {S : List O} : irng2K (some ([.int i, .int j], S)) = if -(2 ^ 62) ≤ i ∧ i < 2 ^ 62 ∧ -(2 ^ 62) ≤ j ∧ j < 2 ^ 62 then some (rangeD i j, S) else none := id rfl
theorem seqP_1 {xs : List D} : seqP (.lst xs) = some xs := id rfl
theorem seqP_2 {ns : List Int} : seqP (.scr ns) = some (ns.map .int) := id rfl
theorem iSeq_u {f : E} {δ : Sl} {S : List O} : iSeq f δ S = iseqK (f δ S) := by unfold iSeq; cases f δ S with | none => rfl | some p => (obtain ⟨d, S1⟩ := p; show ((seqP d).bind _) = iseqK2 S1 (seqP d); cases seqP d <;> rfl)
theorem iTupD_u {f : E} {δ : Sl} {S : List O} : iTupD f δ S = itupK (f δ S) := by unfold iTupD; cases f δ S with | none => rfl | some p => (obtain ⟨d, S1⟩ := p; cases d <;> rfl)
theorem iStrD_u {f : E} {δ : Sl} {S : List O} : iStrD f δ S = istrK (f δ S) := by unfold iStrD; cases f δ S with | none => rfl | some p => (obtain ⟨d, S1⟩ := p; cases d <;> rfl)
theorem iRange1_u {g : A} {δ : Sl} {S : List O} : iRange1 g δ S = irng1K (g δ S) := by unfold iRange1 irng1K; cases g δ S with | none => rfl | some p => (obtain ⟨ds, S1⟩ := p; cases ds with | nil => rfl | cons d ds => (cases ds with | nil => (cases d <;> rfl) | cons e es => (cases d <;> rfl)))
theorem iRange2_u {g : A} {δ : Sl} {S : List O} : iRange2 g δ S = irng2K (g δ S) := by unfold iRange2 irng2K; cases g δ S with | none => rfl | some p => (obtain ⟨ds, S1⟩ := p; match ds with | [] => rfl | [d] => (cases d <;> rfl) | d :: e :: f :: r => (cases d <;> cases e <;> rfl) | [d, e] => (cases d <;> cases e <;> rfl))
def m1K2 (k : D → D → List O → Option (D × List O)) (d : D) (o : Option (D × List O)) : Option (D × List O) := match o with | some (e, S) => k d e S | none => none
def m1K (k : D → D → List O → Option (D × List O)) (f : E) (δ : Sl) (o : Option (D × List O)) : Option (D × List O) := match o with | some (d, S) => if isLst S d = true then m1K2 k d (f δ S) else none | none => none
def m0K (k : D → List O → Option (D × List O)) (o : Option (D × List O)) : Option (D × List O) := match o with | some (d, S) => if isLst S d = true then k d S else none | none => none
def s1K2 (k : Op2) (d : D) (o : Option (D × List O)) : Option (D × List O) := opK2 k d o
def s1K (k : Op2) (f : E) (δ : Sl) (o : Option (D × List O)) : Option (D × List O) := match o with | some (.str x, S) => opK2 k (.str x) (f δ S) | _ => none
theorem m1K_1 {k : D → D → List O → Option (D × List O)} {f : E} {δ : Sl} {d : D} {S : List O} : m1K k f δ (some (d, S)) = if isLst S d = true then m1K2 k d (f δ S) else none := id rfl
theorem m1K2_1 {k : D → D → List O → Option (D × List O)} {d e : D} {S : List O} : m1K2 k d (some (e, S)) = k d e S := id rfl
theorem m0K_1 {k : D → List O → Option (D × List O)} {d : D} {S : List O} : m0K k (some (d, S)) = if isLst S d = true then k d S else none := id rfl
theorem s1K_1 {k : Op2} {f : E} {δ : Sl} {x : Str} {S : List O} : s1K k f δ (some (.str x, S)) = opK2 k (.str x) (f δ S) := id rfl
theorem eMeth1_u {k : D → D → List O → Option (D × List O)} {f g : E} {δ : Sl} {S : List O} : eMeth1 k f g δ S = m1K k g δ (f δ S) := by unfold eMeth1 m1K; cases f δ S with | none => rfl | some p => (obtain ⟨d, S1⟩ := p; show (if isLst S1 d = true then _ else _) = (if isLst S1 d = true then _ else _); split <;> first | rfl | (show ((g δ S1).bind _) = m1K2 k d (g δ S1); cases g δ S1 <;> rfl))
theorem eMeth0_u {k : D → List O → Option (D × List O)} {f : E} {δ : Sl} {S : List O} : eMeth0 k f δ S = m0K k (f δ S) := by unfold eMeth0; cases f δ S <;> rfl
theorem eS1_u {k : Op2} {f g : E} {δ : Sl} {S : List O} : eS1 k f g δ S = s1K k g δ (f δ S) := by unfold eS1; cases f δ S with | none => rfl | some p => (obtain ⟨d, S1⟩ := p; cases d with | str x => (show ((g δ S1).bind _) = opK2 k (.str x) (g δ S1); cases g δ S1 with | none => rfl | some q => (obtain ⟨e, S2⟩ := q; show ((k (.str x) e S2).bind _) = opK3 S2 (k (.str x) e S2); cases k (.str x) e S2 <;> rfl)) | _ => rfl)
def setK (i : Nat) (δ : Sl) (o : Option (D × List O)) : Option Out := match o with | some (d, S) => some (.nx (δ.set i (some d)) S) | none => none
def asgK2 (S : List O) (o : Option Sl) : Option Out := match o with | some δ => some (.nx δ S) | none => none
def asgK (g : G) (δ : Sl) (o : Option (D × List O)) : Option Out := match o with | some (d, S) => asgK2 S (g d δ) | none => none
def retK (o : Option (D × List O)) : Option Out := match o with | some (d, S) => some (.rt d S) | none => none
def expK (δ : Sl) (o : Option (D × List O)) : Option Out := match o with | some (_, S) => some (.nx δ S) | none => none
def seqK (y : B) (o : Option Out) : Option Out := match o with | some (.nx δ S) => y δ S | o => o
def ifK (x y : B) (δ : Sl) (o : Option (Bool × List O)) : Option Out := match o with | some (true, S) => x δ S | some (false, S) => y δ S | none => none
def forK (gd : G) (b : B) (δ : Sl) (o : Option (List D × List O)) : Option Out := match o with | some (ds, S) => forD gd b ds δ S | none => none
def forK3 (gd : G) (b : B) (ds : List D) (o : Option Out) : Option Out := match o with | some (.nx δ S) => forD gd b ds δ S | some (.ct δ S) => forD gd b ds δ S | some (.bk δ S) => some (.nx δ S) | some (.rt d S) => some (.rt d S) | none => none
def forK2 (gd : G) (b : B) (ds : List D) (S : List O) (o : Option Sl) : Option Out := match o with | some δ => forK3 gd b ds (b δ S) | none => none
def fnK (o : Option Out) : Option (D × List O) := match o with | some (.rt d S) => some (d, S) | some (.nx _ S) => some (.non, S) | _ => none
def gcK (n : Nat) (o : Option (D × List O)) : Option (D × List O) := match o with | some p => gcF n p | none => none
def stK2 (δ : Sl) (o : Option (List O)) : Option Out := match o with | some S => some (.nx δ S) | none => none
def stF (d : D) (k : Int) (o : O) : Option O := match o with | .lst xs => (ixN xs.length k).bind fun j => some (.lst (xs.set j d)) | _ => none
def stK1 (d o : D) (δ : Sl) (p : Option (D × List O)) : Option Out := match p with | some (.int k, S) => stK2 δ (setO S o (stF d k)) | _ => none
def stK0 (fi : E) (d : D) (δ : Sl) (p : Option (D × List O)) : Option Out := match p with | some (o, S) => stK1 d o δ (fi δ S) | none => none
def stK (fo fi : E) (δ : Sl) (p : Option (D × List O)) : Option Out := match p with | some (d, S) => stK0 fi d δ (fo δ S) | none => none
theorem setK_1 {i : Nat} {δ : Sl} {d : D} {S : List O} : setK i δ (some (d, S)) = some (.nx (δ.set i (some d)) S) := id rfl
theorem asgK_1 {g : G} {δ : Sl} {d : D} {S : List O} : asgK g δ (some (d, S)) = asgK2 S (g d δ) := id rfl
theorem asgK2_1 {δ : Sl} {S : List O} : asgK2 S (some δ) = some (.nx δ S) := id rfl
theorem retK_1 {d : D} {S : List O} : retK (some (d, S)) = some (.rt d S) := id rfl
theorem expK_1 {δ : Sl} {d : D} {S : List O} : expK δ (some (d, S)) = some (.nx δ S) := id rfl
theorem seqK_1 {y : B} {δ : Sl} {S : List O} : seqK y (some (.nx δ S)) = y δ S := id rfl
theorem seqK_2 {y : B} {d : D} {S : List O} : seqK y (some (.rt d S)) = some (.rt d S) := id rfl
theorem seqK_3 {y : B} {δ : Sl} {S : List O} : seqK y (some (.bk δ S)) = some (.bk δ S) := id rfl
theorem ifK_1 {x y : B} {δ : Sl} {S : List O} : ifK x y δ (some (true, S)) = x δ S := id rfl
theorem ifK_2 {x y : B} {δ : Sl} {S : List O} : ifK x y δ (some (false, S)) = y δ S := id rfl
theorem forK_1 {gd : G} {b : B} {δ : Sl} {ds : List D} {S : List O} : forK gd b δ (some (ds, S)) = forD gd b ds δ S := id rfl
theorem forD_n {gd : G} {b : B} {δ : Sl} {S : List O} : forD gd b [] δ S = some (.nx δ S) := id rfl
theorem forK2_1 {gd : G} {b : B} {ds : List D} {δ : Sl} {S : List O} : forK2 gd b ds S (some δ) = forK3 gd b ds (b δ S) := id rfl
theorem forK3_1 {gd : G} {b : B} {ds : List D} {δ : Sl} {S : List O} : forK3 gd b ds (some (.nx δ S)) = forD gd b ds δ S := id rfl
theorem forK3_2 {gd : G} {b : B} {ds : List D} {δ : Sl} {S : List O} : forK3 gd b ds (some (.bk δ S)) = some (.nx δ S) := id rfl
theorem forK3_3 {gd : G} {b : B} {ds : List D} {d : D} {S : List O} : forK3 gd b ds (some (.rt d S)) = some (.rt d S) := id rfl
theorem fnK_1 {d : D} {S : List O} : fnK (some (.rt d S)) = some (d, S) := id rfl
theorem fnK_2 {δ : Sl} {S : List O} : fnK (some (.nx δ S)) = some (.non, S) := id rfl
theorem gcK_1 {n : Nat} {p : D × List O} : gcK n (some p) = gcF n p := id rfl
theorem sNext_u {δ : Sl} {S : List O} : sNext δ S = some (.nx δ S) := id rfl
theorem sBrk_u {δ : Sl} {S : List O} : sBrk δ S = some (.bk δ S) := id rfl
theorem stK_1 {fo fi : E} {δ : Sl} {d : D} {S : List O} : stK fo fi δ (some (d, S)) = stK0 fi d δ (fo δ S) := id rfl
theorem stK0_1 {fi : E} {δ : Sl} {d o : D} {S : List O} : stK0 fi d δ (some (o, S)) = stK1 d o δ (fi δ S) := id rfl
theorem stK1_1 {δ : Sl} {d o : D} {k : Int} {S : List O} : stK1 d o δ (some (.int k, S)) = stK2 δ (setO S o (stF d k)) := id rfl
theorem stK2_1 {δ : Sl} {S : List O} : stK2 δ (some S) = some (.nx δ S) := id rfl
theorem sSet_u {i : Nat} {f : E} {δ : Sl} {S : List O} : sSet i f δ S = setK i δ (f δ S) := by unfold sSet; cases f δ S <;> rfl
theorem sAsg_u {f : E} {g : G} {δ : Sl} {S : List O} : sAsg f g δ S = asgK g δ (f δ S) := by unfold sAsg; cases f δ S with | none => rfl | some p => (obtain ⟨d, S1⟩ := p; show ((g d δ).bind _) = asgK2 S1 (g d δ); cases g d δ <;> rfl)
theorem sRet_u {f : E} {δ : Sl} {S : List O} : sRet f δ S = retK (f δ S) := by unfold sRet; cases f δ S <;> rfl
theorem sExp_u {f : E} {δ : Sl} {S : List O} : sExp f δ S = expK δ (f δ S) := by unfold sExp; cases f δ S <;> rfl
theorem sSeq_u {x y : B} {δ : Sl} {S : List O} : sSeq x y δ S = seqK y (x δ S) := by unfold sSeq; cases x δ S with | none => rfl | some o => (cases o <;> rfl)
theorem sIf_u {c : T} {x y : B} {δ : Sl} {S : List O} : sIf c x y δ S = ifK x y δ (c δ S) := by unfold sIf; cases c δ S with | none => rfl | some p => (obtain ⟨b, S1⟩ := p; cases b <;> rfl)
theorem sFor_u {it : A} {gd : G} {b : B} {δ : Sl} {S : List O} : sFor it gd b δ S = forK gd b δ (it δ S) := by unfold sFor; cases it δ S <;> rfl
theorem forD_c {gd : G} {b : B} {d : D} {ds : List D} {δ : Sl} {S : List O} : forD gd b (d :: ds) δ S = forK2 gd b ds S (gd d δ) := by show ((gd d δ).bind _) = forK2 gd b ds S (gd d δ); cases gd d δ with | none => rfl | some δ1 => (show ((b δ1 S).bind _) = forK3 gd b ds (b δ1 S); cases b δ1 S with | none => rfl | some o => (cases o <;> rfl))
theorem fnD_u {n : Nat} {b : B} {ds : List D} {S : List O} : fnD n b ds S = fnK (b (ds.map some ++ List.replicate (n - ds.length) none) S) := by unfold fnD fnK; cases b (ds.map some ++ List.replicate (n - ds.length) none) S with | none => rfl | some o => (cases o <;> rfl)
theorem gcFn_u {F : Fn} {ds : List D} {S : List O} : gcFn F ds S = gcK S.length (F ds S) := by unfold gcFn; cases F ds S <;> rfl
theorem sSetIx_u {fe fo fi : E} {δ : Sl} {S : List O} : sSetIx fe fo fi δ S = stK fo fi δ (fe δ S) := by
  unfold sSetIx stK
  cases fe δ S with
  | none => rfl
  | some p =>
    obtain ⟨d, S1⟩ := p
    show ((fo δ S1).bind _) = stK0 fi d δ (fo δ S1)
    cases fo δ S1 with
    | none => rfl
    | some q =>
      obtain ⟨o, S2⟩ := q
      show ((fi δ S2).bind _) = stK1 d o δ (fi δ S2)
      cases fi δ S2 with
      | none => rfl
      | some r =>
        obtain ⟨i, S3⟩ := r
        cases i with
        | int k =>
          show ((setO S3 o (stF d k)).bind _) = stK2 δ (setO S3 o (stF d k))
          cases setO S3 o (stF d k) <;> rfl
        | _ => rfl
theorem dAdd_i {i j : Int} {S : List O} : dAdd (.int i) (.int j) S = some (.int (i + j)) := id rfl
theorem dAdd_s {x y : Str} {S : List O} : dAdd (.str x) (.str y) S = if x.length + y.length ≤ sizeLine then some (.str (x ++ y)) else none := id rfl
theorem dAdd_t {a b : List D} {S : List O} : dAdd (.tup a) (.tup b) S = if a.length + b.length ≤ sizeLine then some (.tup (a ++ b)) else none := id rfl
theorem dAdd_l {a b : List D} {S : List O} : dAdd (.lst a) (.lst b) S = if a.length + b.length ≤ sizeLine then some (.lst (a ++ b)) else none := id rfl
theorem dSub_i {i j : Int} {S : List O} : dInt gSub (.int i) (.int j) S = some (.int (i - j)) := id rfl
theorem dCmp_i {g : Int → Int → Bool} {i j : Int} {S : List O} : dCmp g (.int i) (.int j) S = some (.bl (g i j)) := id rfl
theorem dEq_s {L : Nat} {x y : Str} {S : List O} : dEq L (.str x) (.str y) S = some (.bl (decide (x = y))) := id rfl
theorem dEq_i {L : Nat} {x y : Int} {S : List O} : dEq L (.int x) (.int y) S = some (.bl (decide (x = y))) := id rfl
theorem dEq_b {L : Nat} {x y : Bool} {S : List O} : dEq L (.bl x) (.bl y) S = some (.bl (decide (x = y))) := id rfl
theorem dNe_s {L : Nat} {x y : Str} {S : List O} : dNe L (.str x) (.str y) S = some (.bl (!decide (x = y))) := id rfl
theorem dNe_i {L : Nat} {x y : Int} {S : List O} : dNe L (.int x) (.int y) S = some (.bl (!decide (x = y))) := id rfl
theorem dNe_b {L : Nat} {x y : Bool} {S : List O} : dNe L (.bl x) (.bl y) S = some (.bl (!decide (x = y))) := id rfl
theorem dIx_t {ds : List D} {i : Int} {S : List O} : dIx (.tup ds) (.int i) S = atI ds i := id rfl
theorem dIx_l {ds : List D} {i : Int} {S : List O} : dIx (.lst ds) (.int i) S = atI ds i := id rfl
theorem dIx_c {ns : List Int} {i : Int} {S : List O} : dIx (.scr ns) (.int i) S = atI (ns.map D.int) i := id rfl
theorem dSlice_t {ds : List D} {l h : Option Int} {S : List O} : dSlice (.tup ds) l h S = some (.tup (cutD ds l h)) := id rfl
theorem dSlice_l {ds : List D} {l h : Option Int} {S : List O} : dSlice (.lst ds) l h S = some (.lst (cutD ds l h)) := id rfl
theorem dSlice_c {ns : List Int} {l h : Option Int} {S : List O} : dSlice (.scr ns) l h S = some (.lst (cutD (ns.map D.int) l h)) := id rfl
theorem dSlice_s {z : Str} {l h : Option Int} {S : List O} : dSlice (.str z) l h S = if z.length ≤ sizeLine then some (.str (cutS z l h)) else none := id rfl
theorem bLen_t {ds : List D} {S : List O} : bLen [.tup ds] S = some (.int ds.length) := id rfl
theorem bLen_l {ds : List D} {S : List O} : bLen [.lst ds] S = some (.int ds.length) := id rfl
theorem bLen_s {z : Str} {S : List O} : bLen [.str z] S = if z.length ≤ sizeLine then some (.int z.length) else none := id rfl
theorem bTup_t {ds : List D} {S : List O} : bTup [.tup ds] S = some (.tup ds) := id rfl
theorem bTup_l {ds : List D} {S : List O} : bTup [.lst ds] S = some (.tup ds) := id rfl
theorem blList_t {ds : List D} {S : List O} : blList [.tup ds] S = some ds := id rfl
theorem blList_l {ds : List D} {S : List O} : blList [.lst ds] S = some ds := id rfl
theorem bInt_i {i : Int} {S : List O} : bInt [.int i] S = some (.int i) := id rfl
theorem bInt_t {S : List O} : bInt [.bl true] S = some (.int 1) := id rfl
theorem bInt_f {S : List O} : bInt [.bl false] S = some (.int 0) := id rfl
theorem bMin_i {i j : Int} {S : List O} : bMin [.int i, .int j] S = some (.int (if j < i then j else i)) := id rfl
theorem dIsN_1 {d : D} {S : List O} : dIsN false d .non S = some (.bl (isNon d)) := id rfl
theorem dIsN_2 {d : D} {S : List O} : dIsN true d .non S = some (.bl (!isNon d)) := id rfl
theorem seqL_l {S : List O} {ds : List D} : seqL S (.lst ds) = some ds := id rfl
theorem seqL_c {S : List O} {ns : List Int} : seqL S (.scr ns) = some (ns.map .int) := id rfl
theorem dMod_i {i j : Int} {S : List O} (h : 0 < j) : dInt gMod (.int i) (.int j) S = some (.int (i % j)) := by simp [dInt, gMod, h]
theorem dDiv_i {i j : Int} {S : List O} (h : 0 < j ∧ j < 1073741824) : dInt gDiv (.int i) (.int j) S = some (.int (i / j)) := by simp [dInt, gDiv, h]
theorem dMul_r {i j : Int} {S : List O} (h : -(2 ^ 64) < j ∧ j < 2 ^ 64) : dMul (.int i) (.int j) S = some (.int (i * j)) := by simp only [dMul, gMul]; rw [if_pos (.inr h)]; rfl
theorem dMul_l {i j : Int} {S : List O} (h : -(2 ^ 64) < i ∧ i < 2 ^ 64) : dMul (.int i) (.int j) S = some (.int (i * j)) := by simp only [dMul, gMul]; rw [if_pos (.inl h)]; rfl
theorem bLen_c {ns : List Int} {S : List O} : bLen [.scr ns] S = some (.int ns.length) := by simp [bLen, seqL]
theorem gc_same {n : Nat} {d : D} {S : List O} (h : S.length ≤ n) : gcF n (d, S) = some (d, S) := by unfold gcF; rw [if_pos h]
theorem pow12 {S : List O} : dInt gPow (.int 10) (.int 12) S = some (.int 1000000000000) := by simp [dInt, gPow]
def dicO (o : Option O) : Option (List (Key × D)) := match o with | some (.dic ks) => some ks | _ => none
def keyO (y : D) : Option Key := dK y
def dgK2 (ks : List (Key × D)) (o : Option Key) : Option D := match o with | some k => valD ks k | none => none
def dgK (y : D) (o : Option (List (Key × D))) : Option D := match o with | some ks => dgK2 ks (keyO y) | none => none
def diK2 (neg : Bool) (ks : List (Key × D)) (o : Option Key) : Option D := match o with | some k => some (.bl (if neg then !(valD ks k).isSome else (valD ks k).isSome)) | none => none
def diK (neg : Bool) (y : D) (o : Option (List (Key × D))) : Option D := match o with | some ks => diK2 neg ks (keyO y) | none => none
def ienK (o : Option (D × List O)) : Option (List D × List O) := match o with | some (.tup ds, S) => some (enumD 0 ds, S) | _ => none
def ppK3 (d e : D) (o : Option (List (D × D) × List O)) : Option (List (D × D) × List O) := match o with | some (r, S) => some ((d, e) :: r, S) | none => none
def ppK2 (g : PP) (δ : Sl) (d : D) (o : Option (D × List O)) : Option (List (D × D) × List O) := match o with | some (e, S) => ppK3 d e (g δ S) | none => none
def ppK (f : E) (g : PP) (δ : Sl) (o : Option (D × List O)) : Option (List (D × D) × List O) := match o with | some (d, S) => ppK2 g δ d (f δ S) | none => none
def kdK2 (k : Key) (d : D) (o : Option (List (Key × D))) : Option (List (Key × D)) := match o with | some r => some ((k, d) :: r) | none => none
def kdK (d : D) (r : List (D × D)) (o : Option Key) : Option (List (Key × D)) := match o with | some k => kdK2 k d (keysD r) | none => none
def ddK2 (S : List O) (o : Option (List (Key × D))) : Option (List (Key × D) × List O) := match o with | some ks => some (mergeD [] ks, S) | none => none
def ddK (o : Option (List (D × D) × List O)) : Option (List (Key × D) × List O) := match o with | some (ps, S) => if ps.length ≤ 15 then ddK2 S (keysD ps) else none | none => none
def g2K4 (ks : List (Key × D)) (z : D) (S : List O) (o : Option Key) : Option (D × List O) := match o with | some k => some ((valD ks k).getD z, S) | none => none
def g2K3 (y z : D) (S : List O) (o : Option (List (Key × D))) : Option (D × List O) := match o with | some ks => g2K4 ks z S (keyO y) | none => none
def g2K2 (x y : D) (o : Option (D × List O)) : Option (D × List O) := match o with | some (z, S) => g2K3 y z S (dicS S x) | none => none
def g2K1 (f3 : E) (δ : Sl) (x : D) (o : Option (D × List O)) : Option (D × List O) := match o with | some (y, S) => g2K2 x y (f3 δ S) | none => none
def g2K (f2 f3 : E) (δ : Sl) (o : Option (D × List O)) : Option (D × List O) := match o with | some (x, S) => if isDic S x = true then g2K1 f3 δ x (f2 δ S) else none | none => none
def dpF (k : Key) (d : D) (o : O) : Option O := match o with | .dic ks => if ks.length < 16777216 then some (.dic (putD ks k d)) else none | _ => none
def dpK3 (d o : D) (δ : Sl) (S : List O) (k : Option Key) : Option Out := match k with | some k => stK2 δ (setO S o (dpF k d)) | none => none
def dpK2 (d o : D) (δ : Sl) (p : Option (D × List O)) : Option Out := match p with | some (i, S) => dpK3 d o δ S (keyO i) | none => none
def dpK1 (fi : E) (d : D) (δ : Sl) (p : Option (D × List O)) : Option Out := match p with | some (o, S) => dpK2 d o δ (fi δ S) | none => none
def dpK (fo fi : E) (δ : Sl) (p : Option (D × List O)) : Option Out := match p with | some (d, S) => dpK1 fi d δ (fo δ S) | none => none
def dbK2 (S : List O) (o : Option (List (Key × D))) : Option (List (Key × D) × List O) := match o with | some d => some (d, S) | none => none
def dbK (k : Bd) (o : Option (List D × List O)) : Option (List (Key × D) × List O) := match o with | some (ds, S) => dbK2 S (k ds S) | none => none
theorem dicS_d {S : List O} {ks : List (Key × D)} : dicS S (.dic ks) = some ks := id rfl
theorem dicO_1 {ks : List (Key × D)} : dicO (some (.dic ks)) = some ks := id rfl
theorem keyO_s {x : Str} : keyO (.str x) = some (.inr x) := id rfl
theorem keyO_i {x : Int} : keyO (.int x) = some (.inl x) := id rfl
theorem dgK_1 {y : D} {ks : List (Key × D)} : dgK y (some ks) = dgK2 ks (keyO y) := id rfl
theorem dgK2_1 {ks : List (Key × D)} {k : Key} : dgK2 ks (some k) = valD ks k := id rfl
theorem diK_1 {neg : Bool} {y : D} {ks : List (Key × D)} : diK neg y (some ks) = diK2 neg ks (keyO y) := id rfl
theorem diK2_f {ks : List (Key × D)} {k : Key} : diK2 false ks (some k) = some (.bl (valD ks k).isSome) := id rfl
theorem diK2_t {ks : List (Key × D)} {k : Key} : diK2 true ks (some k) = some (.bl (!(valD ks k).isSome)) := id rfl
theorem valD_n {k : Key} : valD [] k = none := id rfl
theorem mergeD_n {ks : List (Key × D)} : mergeD ks [] = ks := id rfl
theorem mergeD_c {ks r : List (Key × D)} {k : Key} {d : D} : mergeD ks ((k, d) :: r) = mergeD (putD ks k d) r := id rfl
theorem putD_n {k : Key} {d : D} : putD [] k d = [(k, d)] := id rfl
theorem ienK_1 {ds : List D} {S : List O} : ienK (some (.tup ds, S)) = some (enumD 0 ds, S) := id rfl
theorem ppNil_u {δ : Sl} {S : List O} : ppNil δ S = some ([], S) := id rfl
theorem ppK_1 {f : E} {g : PP} {δ : Sl} {d : D} {S : List O} : ppK f g δ (some (d, S)) = ppK2 g δ d (f δ S) := id rfl
theorem ppK2_1 {g : PP} {δ : Sl} {d e : D} {S : List O} : ppK2 g δ d (some (e, S)) = ppK3 d e (g δ S) := id rfl
theorem ppK3_1 {d e : D} {r : List (D × D)} {S : List O} : ppK3 d e (some (r, S)) = some ((d, e) :: r, S) := id rfl
theorem keysD_n : keysD [] = some [] := id rfl
theorem kdK_1 {d : D} {r : List (D × D)} {k : Key} : kdK d r (some k) = kdK2 k d (keysD r) := id rfl
theorem kdK2_1 {k : Key} {d : D} {r : List (Key × D)} : kdK2 k d (some r) = some ((k, d) :: r) := id rfl
theorem ddK_1 {ps : List (D × D)} {S : List O} : ddK (some (ps, S)) = if ps.length ≤ 15 then ddK2 S (keysD ps) else none := id rfl
theorem ddK2_1 {S : List O} {ks : List (Key × D)} : ddK2 S (some ks) = some (mergeD [] ks, S) := id rfl
theorem g2K_1 {f2 f3 : E} {δ : Sl} {x : D} {S : List O} : g2K f2 f3 δ (some (x, S)) = if isDic S x = true then g2K1 f3 δ x (f2 δ S) else none := id rfl
theorem g2K1_1 {f3 : E} {δ : Sl} {x y : D} {S : List O} : g2K1 f3 δ x (some (y, S)) = g2K2 x y (f3 δ S) := id rfl
theorem g2K2_1 {x y z : D} {S : List O} : g2K2 x y (some (z, S)) = g2K3 y z S (dicS S x) := id rfl
theorem g2K3_1 {y z : D} {S : List O} {ks : List (Key × D)} : g2K3 y z S (some ks) = g2K4 ks z S (keyO y) := id rfl
theorem g2K4_1 {ks : List (Key × D)} {z : D} {S : List O} {k : Key} : g2K4 ks z S (some k) = some ((valD ks k).getD z, S) := id rfl
theorem isDic_d {S : List O} {ks : List (Key × D)} : isDic S (.dic ks) = true := id rfl
theorem dpK_1 {fo fi : E} {δ : Sl} {d : D} {S : List O} : dpK fo fi δ (some (d, S)) = dpK1 fi d δ (fo δ S) := id rfl
theorem dpK1_1 {fi : E} {d o : D} {δ : Sl} {S : List O} : dpK1 fi d δ (some (o, S)) = dpK2 d o δ (fi δ S) := id rfl
theorem dpK2_1 {d o i : D} {δ : Sl} {S : List O} : dpK2 d o δ (some (i, S)) = dpK3 d o δ S (keyO i) := id rfl
theorem dpK3_1 {d o : D} {δ : Sl} {S : List O} {k : Key} : dpK3 d o δ S (some k) = stK2 δ (setO S o (dpF k d)) := id rfl
theorem dbK_1 {k : Bd} {ds : List D} {S : List O} : dbK k (some (ds, S)) = dbK2 S (k ds S) := id rfl
theorem dbK2_1 {S : List O} {d : List (Key × D)} : dbK2 S (some d) = some (d, S) := id rfl
theorem bdCopy_1 {d : D} {S : List O} : bdCopy [d] S = dicS S d := id rfl
theorem ddNew_u {δ : Sl} {S : List O} : ddNew δ S = some ([], S) := id rfl
theorem dicS_r {S : List O} {n : Nat} : dicS S (.ref n) = dicO S[n]? := by show (match S[n]? with | some (O.dic ks) => some ks | _ => none) = dicO S[n]?; unfold dicO; rfl
theorem dGet_u {x y : D} {S : List O} : dGet x y S = dgK y (dicS S x) := by unfold dGet; cases dicS S x with | none => rfl | some ks => (show ((dK y).bind _) = dgK2 ks (keyO y); show _ = dgK2 ks (dK y); cases dK y <;> rfl)
theorem dInK_u {neg : Bool} {x y : D} {S : List O} : dInK neg y x S = diK neg y (dicS S x) := by unfold dInK; cases dicS S x with | none => rfl | some ks => (show ((dK y).bind _) = diK2 neg ks (keyO y); show _ = diK2 neg ks (dK y); cases dK y <;> rfl)
theorem valD_c {j k : Key} {d : D} {ks : List (Key × D)} : valD ((j, d) :: ks) k = if j = k then some d else valD ks k := by unfold valD; rw [List.find?_cons]; by_cases h : j = k <;> simp [h]
theorem putD_c {j k : Key} {d e : D} {ks : List (Key × D)} : putD ((j, e) :: ks) k d = if j = k then (j, d) :: ks.map (fun kv => if kv.1 = k then (kv.1, d) else kv) else (j, e) :: putD ks k d := by unfold putD; by_cases h : j = k <;> simp only [h, List.any_cons, decide_false, decide_true, Bool.false_or, Bool.true_or, if_false, if_true, List.map_cons, List.cons_append]; split <;> rfl
theorem iEnumD_u {f : E} {δ : Sl} {S : List O} : iEnumD f δ S = ienK (f δ S) := by unfold iEnumD; cases f δ S with | none => rfl | some p => (obtain ⟨d, S1⟩ := p; cases d <;> rfl)
theorem ppCons_u {f1 f2 : E} {g : PP} {δ : Sl} {S : List O} : ppCons f1 f2 g δ S = ppK f2 g δ (f1 δ S) := by unfold ppCons; cases f1 δ S with | none => rfl | some p => (obtain ⟨d, S1⟩ := p; show ((f2 δ S1).bind _) = ppK2 g δ d (f2 δ S1); cases f2 δ S1 with | none => rfl | some q => (obtain ⟨e, S2⟩ := q; show ((g δ S2).bind _) = ppK3 d e (g δ S2); cases g δ S2 <;> rfl))
theorem keysD_c {k d : D} {r : List (D × D)} : keysD ((k, d) :: r) = kdK d r (keyO k) := by show ((dK k).bind _) = kdK d r (dK k); cases dK k with | none => rfl | some k => (show ((keysD r).bind _) = kdK2 k d (keysD r); cases keysD r <;> rfl)
theorem ddDisp_u {g : PP} {δ : Sl} {S : List O} : ddDisp g δ S = ddK (g δ S) := by unfold ddDisp; cases g δ S with | none => rfl | some p => (obtain ⟨ps, S1⟩ := p; show (if ps.length ≤ 15 then _ else _) = (if ps.length ≤ 15 then _ else _); split <;> first | rfl | (show ((keysD ps).bind _) = ddK2 S1 (keysD ps); cases keysD ps <;> rfl))
theorem eGet2_u {f1 f2 f3 : E} {δ : Sl} {S : List O} : eGet2 f1 f2 f3 δ S = g2K f2 f3 δ (f1 δ S) := by
  unfold eGet2
  cases f1 δ S with
  | none => rfl
  | some p =>
    obtain ⟨x, S1⟩ := p
    show (if isDic S1 x = true then _ else _) = (if isDic S1 x = true then _ else _)
    split
    · show ((f2 δ S1).bind _) = g2K1 f3 δ x (f2 δ S1)
      cases f2 δ S1 with
      | none => rfl
      | some q =>
        obtain ⟨y, S2⟩ := q
        show ((f3 δ S2).bind _) = g2K2 x y (f3 δ S2)
        cases f3 δ S2 with
        | none => rfl
        | some r =>
          obtain ⟨z, S3⟩ := r
          show ((dicS S3 x).bind _) = g2K3 y z S3 (dicS S3 x)
          cases dicS S3 x with
          | none => rfl
          | some ks =>
            show ((dK y).bind _) = g2K4 ks z S3 (dK y)
            cases dK y <;> rfl
    · rfl
theorem sDput_u {fe fo fi : E} {δ : Sl} {S : List O} : sDput fe fo fi δ S = dpK fo fi δ (fe δ S) := by
  unfold sDput
  cases fe δ S with
  | none => rfl
  | some p =>
    obtain ⟨d, S1⟩ := p
    show ((fo δ S1).bind _) = dpK1 fi d δ (fo δ S1)
    cases fo δ S1 with
    | none => rfl
    | some q =>
      obtain ⟨o, S2⟩ := q
      show ((fi δ S2).bind _) = dpK2 d o δ (fi δ S2)
      cases fi δ S2 with
      | none => rfl
      | some r =>
        obtain ⟨i, S3⟩ := r
        show ((dK i).bind _) = dpK3 d o δ S3 (dK i)
        cases dK i with
        | none => rfl
        | some k =>
          show ((setO S3 o (dpF k d)).bind _) = stK2 δ (setO S3 o (dpF k d))
          cases setO S3 o (dpF k d) <;> rfl
theorem ddCopy_u {g : A} {δ : Sl} {S : List O} : ddCopy g δ S = dbK bdCopy (g δ S) := by unfold ddCopy ddBi; cases g δ S with | none => rfl | some p => (obtain ⟨ds, S1⟩ := p; show ((bdCopy ds S1).bind _) = dbK2 S1 (bdCopy ds S1); cases bdCopy ds S1 <;> rfl)
def zsK2 (x : Str) (o : Option (D × List O)) : Option (List D × List O) := match o with | some (.tup ds, S) => some (zipSD x.cps.toList ds, S) | _ => none
def zsK (f : E) (δ : Sl) (o : Option (D × List O)) : Option (List D × List O) := match o with | some (.str x, S) => zsK2 x (f δ S) | _ => none
def zlK3 (S : List O) (a b : Option (List D)) : Option (List D × List O) := match a, b with | some xs, some ys => some (zipLD xs ys, S) | _, _ => none
def zlK2 (d : D) (o : Option (D × List O)) : Option (List D × List O) := match o with | some (e, S) => zlK3 S (seqP d) (seqP e) | none => none
def zlK (f : E) (δ : Sl) (o : Option (D × List O)) : Option (List D × List O) := match o with | some (d, S) => zlK2 d (f δ S) | none => none
def bsK2 (o : Option (List Str)) : Option (List D) := match o with | some l => if l.length < 64 then some ((sortS l).map .str) else none | none => none
def bsK (o : Option (List D)) : Option (List D) := match o with | some xs => bsK2 (strL xs) | none => none
def slK9 (x : Str) (o : Option (List Str)) : Option (List Str) := match o with | some l => some (x :: l) | none => none
theorem zsK_1 {f : E} {δ : Sl} {x : Str} {S : List O} : zsK f δ (some (.str x, S)) = zsK2 x (f δ S) := id rfl
theorem zsK2_1 {x : Str} {ds : List D} {S : List O} : zsK2 x (some (.tup ds, S)) = some (zipSD x.cps.toList ds, S) := id rfl
theorem zlK_1 {f : E} {δ : Sl} {d : D} {S : List O} : zlK f δ (some (d, S)) = zlK2 d (f δ S) := id rfl
theorem zlK2_1 {d e : D} {S : List O} : zlK2 d (some (e, S)) = zlK3 S (seqP d) (seqP e) := id rfl
theorem zlK3_1 {xs ys : List D} {S : List O} : zlK3 S (some xs) (some ys) = some (zipLD xs ys, S) := id rfl
theorem seqP_l {xs : List D} : seqP (.lst xs) = some xs := id rfl
theorem zipLD_c {c d : D} {cs ds : List D} : zipLD (c :: cs) (d :: ds) = .tup [c, d] :: zipLD cs ds := id rfl
theorem zipLD_n : zipLD [] [] = [] := id rfl
theorem zipSD_c {c : Nat} {d : D} {cs : List Nat} {ds : List D} : zipSD (c :: cs) (d :: ds) = .tup [.str ⟨#[c]⟩, d] :: zipSD cs ds := id rfl
theorem zipSD_n : zipSD [] [] = [] := id rfl
theorem bsK_1 {xs : List D} : bsK (some xs) = bsK2 (strL xs) := id rfl
theorem bsK2_1 {l : List Str} : bsK2 (some l) = if l.length < 64 then some ((sortS l).map .str) else none := id rfl
theorem strL_n : strL [] = some [] := id rfl
theorem slK9_1 {x : Str} {l : List Str} : slK9 x (some l) = some (x :: l) := id rfl
theorem iZipS_u {f1 f2 : E} {δ : Sl} {S : List O} : iZipS f1 f2 δ S = zsK f2 δ (f1 δ S) := by
  unfold iZipS
  cases f1 δ S with
  | none => rfl
  | some p =>
    obtain ⟨d, S1⟩ := p
    cases d with
    | str x =>
      show ((f2 δ S1).bind _) = zsK2 x (f2 δ S1)
      cases f2 δ S1 with
      | none => rfl
      | some q => obtain ⟨e, S2⟩ := q; cases e <;> rfl
    | _ =>
      show ((f2 δ S1).bind _) = none
      cases f2 δ S1 <;> rfl
theorem iZip_u {f1 f2 : E} {δ : Sl} {S : List O} : iZip f1 f2 δ S = zlK f2 δ (f1 δ S) := by
  unfold iZip
  cases f1 δ S with
  | none => rfl
  | some p =>
    obtain ⟨d, S1⟩ := p
    show ((f2 δ S1).bind _) = zlK2 d (f2 δ S1)
    cases f2 δ S1 with
    | none => rfl
    | some q =>
      obtain ⟨e, S2⟩ := q
      show ((seqP d).bind _) = zlK3 S2 (seqP d) (seqP e)
      cases seqP d with
      | none => cases seqP e <;> rfl
      | some xs => cases seqP e <;> rfl
theorem blSort_1 {d : D} {S : List O} : blSort [d] S = bsK (seqL S d) := by
  show ((seqL S d).bind _) = bsK (seqL S d)
  cases seqL S d with
  | none => rfl
  | some xs =>
    show ((strL xs).bind _) = bsK2 (strL xs)
    cases strL xs <;> rfl
theorem strL_c {x : Str} {r : List D} : strL (.str x :: r) = slK9 x (strL r) := by show ((strL r).bind _) = slK9 x (strL r); cases strL r <;> rfl
def frK (gd : G) (b : B) (δ : Sl) (o : Option (D × List O)) : Option Out := match o with | some (.ref k, S) => forR gd b k big 0 δ S | _ => none
def ibK2 (S : List O) (o : Option (List D)) : Option (List D × List O) := match o with | some ds => some (ds, S) | none => none
def ibK (o : Option (D × List O)) : Option (List D × List O) := match o with | some (d, S) => ibK2 S (seqB d) | none => none
theorem frK_1 {gd : G} {b : B} {δ : Sl} {k : Nat} {S : List O} : frK gd b δ (some (.ref k, S)) = forR gd b k big 0 δ S := id rfl
theorem ibK_1 {d : D} {S : List O} : ibK (some (d, S)) = ibK2 S (seqB d) := id rfl
theorem ibK2_1 {ds : List D} {S : List O} : ibK2 S (some ds) = some (ds, S) := id rfl
theorem seqB_t {xs : List D} : seqB (.tup xs) = some xs := id rfl
theorem seqB_l {xs : List D} : seqB (.lst xs) = some xs := id rfl
theorem sForR_u {f : E} {gd : G} {b : B} {δ : Sl} {S : List O} : sForR f gd b δ S = frK gd b δ (f δ S) := by unfold sForR; cases f δ S with | none => rfl | some p => (obtain ⟨d, S1⟩ := p; cases d <;> rfl)
theorem iBothD_u {f : E} {δ : Sl} {S : List O} : iBothD f δ S = ibK (f δ S) := by unfold iBothD; cases f δ S with | none => rfl | some p => (obtain ⟨d, S1⟩ := p; show ((seqB d).bind _) = ibK2 S1 (seqB d); cases seqB d <;> rfl)
def insO (o : Option O) : Option (List (Str × D)) := match o with | some (.ins fs) => some fs | _ => none
def fldK3 (S : List O) (o : Option D) : Option (D × List O) := match o with | some d => some (d, S) | none => none
def fldK2 (nm : Str) (S : List O) (o : Option (List (Str × D))) : Option (D × List O) := match o with | some fs => fldK3 S (fs.lookup nm) | none => none
def fldK (nm : Str) (o : Option (D × List O)) : Option (D × List O) := match o with | some (d, S) => fldK2 nm S (insS S d) | none => none
def fsF (nm : Str) (d : D) (o : O) : Option O := match o with | .ins fs => if fs.length < 1000 then some (.ins (putFD nm d fs)) else none | _ => none
def fsK2 (nm : Str) (d : D) (δ : Sl) (p : Option (D × List O)) : Option Out := match p with | some (o, S) => stK2 δ (setO S o (fsF nm d)) | none => none
def fsK (nm : Str) (fo : E) (δ : Sl) (p : Option (D × List O)) : Option Out := match p with | some (d, S) => fsK2 nm d δ (fo δ S) | none => none
def meK4 (n : Nat) (F : Fn) (o : D) (p : Option (List D × List O)) : Option (D × List O) := match p with | some (ds, S) => if ds.length + 1 = n then F (o :: ds) S else none | none => none
def meK2 (mt : Str) (n : Nat) (F : Fn) (g : A) (δ : Sl) (o : D) (S : List O) (q : Option (List (Str × D))) : Option (D × List O) := match q with | some fs => if fs.lookup mt = none then meK4 n F o (g δ S) else none | none => none
def meK (mt : Str) (n : Nat) (F : Fn) (g : A) (δ : Sl) (o : Option (D × List O)) : Option (D × List O) := match o with | some (d, S) => meK2 mt n F g δ d S (insS S d) | none => none
def frsK (n : Nat) (o : Option (D × List O)) : Option (D × List O) := match o with | some (.non, S) => some (.ref n, S) | _ => none
theorem insO_1 {fs : List (Str × D)} : insO (some (.ins fs)) = some fs := id rfl
theorem fldK_1 {nm : Str} {d : D} {S : List O} : fldK nm (some (d, S)) = fldK2 nm S (insS S d) := id rfl
theorem fldK2_1 {nm : Str} {S : List O} {fs : List (Str × D)} : fldK2 nm S (some fs) = fldK3 S (fs.lookup nm) := id rfl
theorem fldK3_1 {S : List O} {d : D} : fldK3 S (some d) = some (d, S) := id rfl
theorem fsK_1 {nm : Str} {fo : E} {δ : Sl} {d : D} {S : List O} : fsK nm fo δ (some (d, S)) = fsK2 nm d δ (fo δ S) := id rfl
theorem fsK2_1 {nm : Str} {d o : D} {δ : Sl} {S : List O} : fsK2 nm d δ (some (o, S)) = stK2 δ (setO S o (fsF nm d)) := id rfl
theorem meK_1 {mt : Str} {n : Nat} {F : Fn} {g : A} {δ : Sl} {d : D} {S : List O} : meK mt n F g δ (some (d, S)) = meK2 mt n F g δ d S (insS S d) := id rfl
theorem meK2_1 {mt : Str} {n : Nat} {F : Fn} {g : A} {δ : Sl} {o : D} {S : List O} {fs : List (Str × D)} : meK2 mt n F g δ o S (some fs) = if fs.lookup mt = none then meK4 n F o (g δ S) else none := id rfl
theorem meK4_1 {n : Nat} {F : Fn} {o : D} {ds : List D} {S : List O} : meK4 n F o (some (ds, S)) = if ds.length + 1 = n then F (o :: ds) S else none := id rfl
theorem frsK_1 {n : Nat} {S : List O} : frsK n (some (.non, S)) = some (.ref n, S) := id rfl
theorem dStarts_1 {a b : Str} {S : List O} : dStarts (.str a) (.str b) S = some (.bl (Txt.startswith a b)) := id rfl
theorem dEnds_1 {a b : Str} {S : List O} : dEnds (.str a) (.str b) S = some (.bl (Txt.endswith a b)) := id rfl
theorem bStrI_1 {i : Int} {S : List O} : bStrI [.int i] S = if i.natAbs.log2 < 1920 then some (.str (toString i)) else none := id rfl
theorem insS_r {S : List O} {n : Nat} : insS S (.ref n) = insO (S[n]?) := by unfold insS; simp only; cases S[n]? with | none => rfl | some o => (cases o <;> rfl)
theorem eFld_u {nm : Str} {f : E} {δ : Sl} {S : List O} : eFld nm f δ S = fldK nm (f δ S) := by unfold eFld; cases f δ S with | none => rfl | some p => (obtain ⟨d, S1⟩ := p; show ((insS S1 d).bind _) = fldK2 nm S1 (insS S1 d); cases insS S1 d with | none => rfl | some fs => (show ((fs.lookup nm).bind _) = fldK3 S1 (fs.lookup nm); cases fs.lookup nm <;> rfl))
theorem sFldS_u {nm : Str} {fv fo : E} {δ : Sl} {S : List O} : sFldS nm fv fo δ S = fsK nm fo δ (fv δ S) := by unfold sFldS; cases fv δ S with | none => rfl | some p => (obtain ⟨d, S1⟩ := p; show ((fo δ S1).bind _) = fsK2 nm d δ (fo δ S1); cases fo δ S1 with | none => rfl | some q => (obtain ⟨o, S2⟩ := q; show ((setO S2 o (fsF nm d)).bind _) = stK2 δ (setO S2 o (fsF nm d)); cases setO S2 o (fsF nm d) <;> rfl))
theorem eMeth_u {mt : Str} {n : Nat} {F : Fn} {fo : E} {g : A} {δ : Sl} {S : List O} : eMeth mt n F fo g δ S = meK mt n F g δ (fo δ S) := by unfold eMeth; cases fo δ S with | none => rfl | some p => (obtain ⟨d, S1⟩ := p; show ((insS S1 d).bind _) = meK2 mt n F g δ d S1 (insS S1 d); cases insS S1 d with | none => rfl | some fs => (show (if fs.lookup mt = none then _ else _) = (if fs.lookup mt = none then _ else _); split <;> first | rfl | (show ((g δ S1).bind _) = meK4 n F d (g δ S1); cases g δ S1 <;> rfl)))
theorem eFresh_u {F : Fn} {δ : Sl} {S : List O} : eFresh F δ S = frsK S.length (F [.ref S.length] (S ++ [.ins []])) := by unfold eFresh; cases F [.ref S.length] (S ++ [.ins []]) with | none => rfl | some p => (obtain ⟨d, S1⟩ := p; cases d <;> rfl)
end Cb
namespace Cb
open PySem PySem.Spec PyProof.Rows L2
def ev := And.intro @varK_1 <| And.intro @eVar_u <| And.intro @eC_u <| And.intro @aNil_u <| And.intro @acK1_1 <| And.intro @acK2_1 <| And.intro @aCons_u <| And.intro @tupK_1 <| And.intro @eTup_u <| And.intro @ldK_1 <| And.intro @lDisp_u <| And.intro @eLK_1 <| And.intro @eLMK_1 <| And.intro @eL_u <| And.intro @eLM_u <| And.intro @eDiK_1 <| And.intro @eDMK_1 <| And.intro @eDi_u <| And.intro @eDM_u <| And.intro @opK1_1 <| And.intro @opK2_1 <| And.intro @opK3_1 <| And.intro @eOp_u <| And.intro @negK_1 <| And.intro @eNeg_u <| And.intro @slK1_1 <| And.intro @slK2_1 <| And.intro @slK3_1 <| And.intro @slK4_1 <| And.intro @ptSK_1 <| And.intro @ptN_u <| And.intro @ptS_u <| And.intro @eSlice_u <| And.intro @callK_1 <| And.intro @eCall_u <| And.intro @biK_1 <| And.intro @blK_1 <| And.intro @blK2_1 <| And.intro @eBi_u <| And.intro @lBi_u <| And.intro @isiK_1 <| And.intro @isiK2_1 <| And.intro @eIsi_u <| And.intro @revK_1 <| And.intro @revK2_1 <| And.intro @lRev_u <| And.intro @andEK_1 <| And.intro @andEK_2 <| And.intro @orEK_1 <| And.intro @orEK_2 <| And.intro @notEK_1 <| And.intro @orSK_1 <| And.intro @ifEK_1 <| And.intro @ifEK_2 <| And.intro @tofK_1 <| And.intro @eAnd_u <| And.intro @eOr_u <| And.intro @eNot_u <| And.intro @eOrS_u <| And.intro @eIf_u <| And.intro @tOf_u <| And.intro @chK1_1 <| And.intro @chK2_1 <| And.intro @chK3_1 <| And.intro @chK3_2 <| And.intro @eChain_u <| And.intro @tandK_1 <| And.intro @tandK_2 <| And.intro @torK_1 <| And.intro @torK_2 <| And.intro @tnotK_1 <| And.intro @tTrue_u <| And.intro @tfAnd_u <| And.intro @tfOr_u <| And.intro @tfNot_u <| And.intro @lcK1_1 <| And.intro @lcK2_1 <| And.intro @lcK3_1 <| And.intro @lcK3_2 <| And.intro @lcK4_1 <| And.intro @lcK5_1 <| And.intro @lcD_n <| And.intro @lcD_c <| And.intro @aLc_u <| And.intro @wipeD_n <| And.intro @wipeD_c <| And.intro @gdName_u <| And.intro @gsK_1 <| And.intro @gsNil_u <| And.intro @gdTup_u <| And.intro @gsCons_u <| And.intro @iseqK_1 <| And.intro @iseqK2_1 <| And.intro @itupK_1 <| And.intro @istrK_1 <| And.intro @irng1K_1 <| And.intro @irng2K_1 <| And.intro @seqP_1 <| And.intro @seqP_2 <| And.intro @iSeq_u <| And.intro @iTupD_u <| And.intro @iStrD_u <| And.intro @iRange1_u <| And.intro @iRange2_u <| And.intro @m1K_1 <| And.intro @m1K2_1 <| And.intro @m0K_1 <| And.intro @s1K_1 <| And.intro @eMeth1_u <| And.intro @eMeth0_u <| And.intro @eS1_u <| And.intro @setK_1 <| And.intro @asgK_1 <| And.intro @asgK2_1 <| And.intro @retK_1 <| And.intro @expK_1 <| And.intro @seqK_1 <| And.intro @seqK_2 <| And.intro @seqK_3 <| And.intro @ifK_1 <| And.intro @ifK_2 <| And.intro @forK_1 <| And.intro @forD_n <| And.intro @forK2_1 <| And.intro @forK3_1 <| And.intro @forK3_2 <| And.intro @forK3_3 <| And.intro @fnK_1 <| And.intro @fnK_2 <| And.intro @gcK_1 <| And.intro @sNext_u <| And.intro @sBrk_u <| And.intro @stK_1 <| And.intro @stK0_1 <| And.intro @stK1_1 <| And.intro @stK2_1 <| And.intro @sSet_u <| And.intro @sAsg_u <| And.intro @sRet_u <| And.intro @sExp_u <| And.intro @sSeq_u <| And.intro @sIf_u <| And.intro @sFor_u <| And.intro @forD_c <| And.intro @fnD_u <| And.intro @gcFn_u <| And.intro @sSetIx_u <| And.intro @dAdd_i <| And.intro @dAdd_s <| And.intro @dAdd_t <| And.intro @dAdd_l <| And.intro @dSub_i <| And.intro @dCmp_i <| And.intro @dEq_s <| And.intro @dEq_i <| And.intro @dEq_b <| And.intro @dNe_s <| And.intro @dNe_i <| And.intro @dNe_b <| And.intro @dIx_t <| And.intro @dIx_l <| And.intro @dIx_c <| And.intro @dSlice_t <| And.intro @dSlice_l <| And.intro @dSlice_c <| And.intro @dSlice_s <| And.intro @bLen_t <| And.intro @bLen_l <| And.intro @bLen_s <| And.intro @bTup_t <| And.intro @bTup_l <| And.intro @blList_t <| And.intro @blList_l <| And.intro @bInt_i <| And.intro @bInt_t <| And.intro @bInt_f <| And.intro @bMin_i <| And.intro @dIsN_1 <| And.intro @dIsN_2 <| And.intro @seqL_l <| And.intro @seqL_c <| And.intro @dMod_i <| And.intro @dDiv_i <| And.intro @dMul_r <| And.intro @dMul_l <| And.intro @bLen_c <| And.intro @gc_same <| And.intro @pow12 <| And.intro @dicS_d <| And.intro @dicO_1 <| And.intro @keyO_s <| And.intro @keyO_i <| And.intro @dgK_1 <| And.intro @dgK2_1 <| And.intro @diK_1 <| And.intro @diK2_f <| And.intro @diK2_t <| And.intro @valD_n <| And.intro @mergeD_n <| And.intro @mergeD_c <| And.intro @putD_n <| And.intro @ienK_1 <| And.intro @ppNil_u <| And.intro @ppK_1 <| And.intro @ppK2_1 <| And.intro @ppK3_1 <| And.intro @keysD_n <| And.intro @kdK_1 <| And.intro @kdK2_1 <| And.intro @ddK_1 <| And.intro @ddK2_1 <| And.intro @g2K_1 <| And.intro @g2K1_1 <| And.intro @g2K2_1 <| And.intro @g2K3_1 <| And.intro @g2K4_1 <| And.intro @isDic_d <| And.intro @dpK_1 <| And.intro @dpK1_1 <| And.intro @dpK2_1 <| And.intro @dpK3_1 <| And.intro @dbK_1 <| And.intro @dbK2_1 <| And.intro @bdCopy_1 <| And.intro @ddNew_u <| And.intro @dicS_r <| And.intro @dGet_u <| And.intro @dInK_u <| And.intro @valD_c <| And.intro @putD_c <| And.intro @iEnumD_u <| And.intro @ppCons_u <| And.intro @keysD_c <| And.intro @ddDisp_u <| And.intro @eGet2_u <| And.intro @sDput_u <| And.intro @ddCopy_u <| And.intro @zsK_1 <| And.intro @zsK2_1 <| And.intro @zlK_1 <| And.intro @zlK2_1 <| And.intro @zlK3_1 <| And.intro @seqP_l <| And.intro @zipLD_c <| And.intro @zipLD_n <| And.intro @zipSD_c <| And.intro @zipSD_n <| And.intro @bsK_1 <| And.intro @bsK2_1 <| And.intro @strL_n <| And.intro @slK9_1 <| And.intro @iZipS_u <| And.intro @iZip_u <| And.intro @blSort_1 <| And.intro @strL_c <| And.intro @frK_1 <| And.intro @ibK_1 <| And.intro @ibK2_1 <| And.intro @seqB_t <| And.intro @seqB_l <| And.intro @sForR_u <| And.intro @iBothD_u <| And.intro @insO_1 <| And.intro @fldK_1 <| And.intro @fldK2_1 <| And.intro @fldK3_1 <| And.intro @fsK_1 <| And.intro @fsK2_1 <| And.intro @meK_1 <| And.intro @meK2_1 <| And.intro @meK4_1 <| And.intro @frsK_1 <| And.intro @dStarts_1 <| And.intro @dEnds_1 <| And.intro @bStrI_1 <| And.intro @insS_r <| And.intro @eFld_u <| And.intro @sFldS_u <| And.intro @eMeth_u <| @eFresh_u
end Cb
namespace Cb
open PySem PySem.Spec PyProof.Rows L2
/-! ## lemmas about data and texts -/
theorem atI_in {α : Type} {xs : List α} {i : Int} (h0 : 0 ≤ i) (h1 : i < xs.length) : ∃ x, atI xs i = some x ∧ x ∈ xs := by
  obtain ⟨j, hj⟩ : ∃ j : Nat, i = (j : Int) := ⟨i.toNat, by omega⟩
  subst hj
  have h : j < xs.length := by omega
  exact ⟨xs[j], atI_nat (List.getElem?_eq_getElem h), List.getElem_mem h⟩
theorem atI_map {α β : Type} (f : α → β) (xs : List α) (i : Int) : atI (xs.map f) i = (atI xs i).map f := by
  unfold atI
  rw [List.length_map]
  cases ixN xs.length i with
  | none => rfl
  | some j => show (xs.map f)[j]? = (xs[j]?).map f; rw [List.getElem?_map]
theorem rangeD_len (lo hi : Int) : (rangeD lo hi).length = (hi - lo).toNat := by simp [rangeD]
/-- a comprehension whose turns are known -/
theorem lcD_map {gd : G} {c : T} {e : E} {δ : Sl} (f : D → D) : ∀ {ds : List D} {S : List O}, (∀ d, d ∈ ds → ∃ δ1, gd d δ = some δ1 ∧ c δ1 S = some (true, S) ∧ e δ1 S = some (f d, S)) → lcD gd c e δ ds S = some (ds.map f, S)
  | [], _, _ => rfl
  | d :: ds, S, h => by
    obtain ⟨δ1, h1, h2, h3⟩ := h d List.mem_cons_self
    rw [lcD_c, h1, lcK2_1, h2, lcK3_1, h3, lcK4_1, lcD_map f (fun d hd => h d (List.mem_cons_of_mem _ hd)), lcK5_1]
    rfl
mutual
theorem okD_pc (n : Nat) : ∀ p : Pc, okD n p.d = true
  | .num _ => by simp [Pc.d, okD, okDs]
  | .name _ => by simp [Pc.d, okD, okDs]
  | .fn _ _ b => by simp [Pc.d, okD, okDs, okD_pc n b]
  | .call _ f g => by simp [Pc.d, okD, okDs, okD_pc n f, okD_pc n g]
  | .plus _ f g => by simp [Pc.d, okD, okDs, okD_pc n f, okD_pc n g]
  | .pick _ c f g => by simp [Pc.d, okD, okDs, okD_pc n c, okD_pc n f, okD_pc n g]
  | .rnd b => by simp [Pc.d, okD, okDs, okD_pc n b]
  | .take _ _ b => by simp [Pc.d, okD, okDs, okD_pc n b]
  | .shut _ _ b => by simp [Pc.d, okD, okDs, okD_pc n b]
  | .kept _ fs => by simp [Pc.d, okD, okDs, okD_frs n fs]
theorem okD_fr (n : Nat) : ∀ f : Fr, okD n f.d = true
  | .caller _ p => by simp [Fr.d, okD, okDs, okD_pc n p]
  | .given _ p => by simp [Fr.d, okD, okDs, okD_pc n p]
  | .adder _ p => by simp [Fr.d, okD, okDs, okD_pc n p]
  | .added _ p => by simp [Fr.d, okD, okDs, okD_pc n p]
  | .picker _ p q => by simp [Fr.d, okD, okDs, okD_pc n p, okD_pc n q]
  | .rnd => by simp [Fr.d, okD, okDs]
theorem okD_frs (n : Nat) : ∀ fs : List Fr, okDs n (Fr.ds fs) = true
  | [] => by simp [Fr.ds, okDs]
  | f :: fs => by simp [Fr.ds, okDs, okD_fr n f, okD_frs n fs]
end
/-- the store: no number without an object -/
def okS (S : List O) : Prop := S.all (okO S.length) = true
theorem okS_set {S : List O} (h : okS S) (j : Nat) (s : Int) : okS (S.set j (.lst [.int s])) := by
  unfold okS at h ⊢
  rw [List.length_set]
  rw [List.all_eq_true] at h ⊢
  intro o ho
  rcases List.mem_or_eq_of_mem_set ho with q | q
  · exact h o q
  · subst q; simp [okO, okDs, okD]
/-- a def's own object is forgotten -/
theorem gc_new {S : List O} {d : D} {o : O} (h : okS S) (hd : okD S.length d = true) (hr : ∀ j, d ≠ .ref j) : gcF S.length (d, S ++ [o]) = some (d, S) := by
  unfold gcF
  rw [if_neg (by simp)]
  have e : (S ++ [o]).take S.length = S := by simp
  simp only [e]
  rw [if_pos (show S.all (okO S.length) = true from h)]
  cases d with
  | ref j => exact absurd rfl (hr j)
  | _ => simp only [hd]; rfl

/-! ### names -/
def nmOk (x : Str) : Prop := 1 ≤ x.length ∧ x.length ≤ 8 ∧ ∀ c ∈ x.cps.toList, 97 ≤ c ∧ c ≤ 122
theorem nm_strOk {x : Str} (h : nmOk x) : PySem.PyData.strOk x = true := by
  unfold PySem.PyData.strOk
  rw [Array.all_eq_true']
  intro c hc
  have := h.2.2 c (by simpa using hc)
  simp; omega
theorem letters_eq : (("abcdefghijklmnopqrstuvwxyz" : Str)).cps.toList = (List.range 26).map (· + 97) := by decide +kernel
theorem letters_len : (("abcdefghijklmnopqrstuvwxyz" : Str)).length = 26 := by decide +kernel
theorem letter_at (S : List O) {i : Int} (h0 : 0 ≤ i) (h1 : i < 26) : ∃ c : Nat, dIx (.str "abcdefghijklmnopqrstuvwxyz") (.int i) S = some (.str ⟨#[c]⟩) ∧ 97 ≤ c ∧ c ≤ 122 := by
  obtain ⟨c, h2, h3⟩ := atI_in (xs := (("abcdefghijklmnopqrstuvwxyz" : Str)).cps.toList) h0 (by rw [letters_eq]; simpa using h1)
  refine ⟨c, ?_, ?_⟩
  · unfold dIx
    dsimp only
    rw [letters_len, sizeLine_eq, if_pos (by decide), h2]
    rfl
  · rw [letters_eq] at h3
    obtain ⟨a, h4, h5⟩ := List.mem_map.mp h3
    have := List.mem_range.mp h4
    omega
theorem str_len (x : Str) : x.length = x.cps.toList.length := by show x.cps.size = _; simp
theorem app_cps (x y : Str) : (x ++ y).cps.toList = x.cps.toList ++ y.cps.toList := by
  show (x.cps ++ y.cps).toList = _
  simp
theorem cutS_cps (z : Str) (lo hi : Option Int) : (cutS z lo hi).cps.toList = cutD z.cps.toList lo hi := by
  unfold cutS cutD
  rw [str_len]
theorem join_one : ∀ cs : List Nat, (Str.join "" (cs.map fun c => (⟨#[c]⟩ : Str))).cps.toList = cs
  | [] => rfl
  | [c] => rfl
  | c :: d :: r => by
    show ((⟨#[c]⟩ : Str) ++ "" ++ Str.join "" ((d :: r).map fun c => (⟨#[c]⟩ : Str))).cps.toList = _
    rw [app_cps, app_cps, join_one (d :: r)]
    rfl
theorem join_cps (cs : List Nat) : (Txt.join "" (cs.map fun c => (⟨#[c]⟩ : Str))).cps.toList = cs := by rw [TL.join_eq, join_one]
theorem strsD_map (xs : List Str) : strsD (xs.map D.str) = some xs := by
  induction xs with
  | nil => rfl
  | cons x xs ih => show ((strsD (xs.map D.str)).bind _) = _; rw [ih]; rfl
theorem ones_sum (cs : List Nat) : (((cs.map fun c => (⟨#[c]⟩ : Str)).map (·.length)).sum) = cs.length := by
  induction cs with
  | nil => rfl
  | cons c cs ih => simp only [List.map_cons, List.sum_cons, ih, List.length_cons]; show 1 + _ = _; omega
/-- the signs of letters, by a list of codes -/
theorem dJoin_ones (S : List O) (cs : List Nat) (h : cs.length ≤ 1000) : dJoin (.str "") (.lst (cs.map fun c => D.str ⟨#[c]⟩)) S = some (.str (Txt.join "" (cs.map fun c => (⟨#[c]⟩ : Str)))) := by
  unfold dJoin
  have e : (cs.map fun c => D.str ⟨#[c]⟩) = (cs.map fun c => (⟨#[c]⟩ : Str)).map D.str := by simp
  simp only [seqA, seqL, Option.bind_some, e, strsD_map]
  rw [if_pos]
  rw [ones_sum]
  have : ("" : Str).length = 0 := by decide +kernel
  rw [this]
  omega
end Cb
namespace Cb
open PySem PySem.Spec PyProof.Rows L2
/-! ## one step, plain -/
def Fr.w : Fr → Pc → Pc
  | .caller a g, p => .call a p g
  | .given a f, p => .call a f p
  | .adder a g, p => .plus a p g
  | .added a f, p => .plus a f p
  | .picker a f g, p => .pick a p f g
  | .rnd, p => .rnd p
/-- frames, the innermost first -/
def plug : List Fr → Pc → Pc
  | [], p => p
  | f :: fs, p => plug fs (f.w p)
def inn : Pc → Option (Fr × Pc)
  | .rnd b => if b.isV = true then none else some (.rnd, b)
  | .pick a c f g => if c.isV = true then none else some (.picker a f g, c)
  | .call a f g => if f.isV = true then (if g.isV = true then none else some (.given a f, g)) else some (.caller a g, f)
  | .plus a f g => if f.isV = true then (if g.isV = true then none else some (.added a f, g)) else some (.adder a g, f)
  | _ => none
/-- the frames about what is next, the outermost first -/
def frs : Pc → List Fr
  | .rnd b => if b.isV = true then [] else .rnd :: frs b
  | .pick a c f g => if c.isV = true then [] else .picker a f g :: frs c
  | .call a f g => if f.isV = true then (if g.isV = true then [] else .given a f :: frs g) else .caller a g :: frs f
  | .plus a f g => if f.isV = true then (if g.isV = true then [] else .added a f :: frs g) else .adder a g :: frs f
  | _ => []
def hd : Pc → Pc
  | .rnd b => if b.isV = true then .rnd b else hd b
  | .pick a c f g => if c.isV = true then .pick a c f g else hd c
  | .call a f g => if f.isV = true then (if g.isV = true then .call a f g else hd g) else hd f
  | .plus a f g => if f.isV = true then (if g.isV = true then .plus a f g else hd g) else hd f
  | p => p
def rix : List Fr → Option Nat
  | [] => none
  | .rnd :: _ => some 0
  | _ :: fs => (rix fs).map (· + 1)
def becomes : Pc → Option Pc
  | .fn a x b => some (.shut a x b)
  | .rnd b => some b
  | .call _ (.shut _ x b) v => some (put x v b)
  | .call _ (.kept _ fs) v => some (.rnd (plug fs v))
  | .plus _ (.num m) (.num n) => some (.num (m + n))
  | .pick _ (.num n) f g => some (if n = 0 then f else g)
  | _ => none
def mk : Pc → Int
  | .fn a _ _ => a
  | .call a _ _ => a
  | .plus a _ _ => a
  | .pick a _ _ _ => a
  | .take a _ _ => a
  | _ => 0
inductive Stp where
  | val | stuck (a : Int) | step (p : Pc)
def stepH (fs : List Fr) (h : Pc) : Stp := match h with
  | .take a x b => match rix fs with
    | none => .stuck a
    | some n => .step (plug (fs.drop n) (put x (.kept a (fs.take n)) b))
  | h => match becomes h with
    | none => .stuck (mk h)
    | some q => .step (plug fs q)
def step (p : Pc) : Stp := if p.isV = true then .val else stepH (frs p).reverse (hd p)
def Stp.d (p : Pc) : Stp → D
  | .val => .tup [.str "value", p.d]
  | .stuck a => .tup [.str "stuck", .int a]
  | .step q => .tup [.str "step", q.d]

theorem inn_none {p : Pc} (h : inn p = none) : frs p = [] ∧ hd p = p := by
  cases p <;> simp only [inn, frs, hd] at h ⊢ <;> (try split at h) <;> (try split at h) <;> simp_all
theorem inn_some {p : Pc} {f : Fr} {q : Pc} (h : inn p = some (f, q)) : frs p = f :: frs q ∧ hd p = hd q ∧ p = f.w q ∧ q.isV = false ∧ p.isV = false := by
  cases p <;> simp only [inn, frs, hd] at h ⊢ <;> (try split at h) <;> (try split at h) <;> simp_all [Fr.w, Pc.isV]
  all_goals (obtain ⟨h1, h2⟩ := h; subst h1; subst h2; simp_all)
theorem plug_app : ∀ (fs gs : List Fr) (p : Pc), plug (fs ++ gs) p = plug gs (plug fs p)
  | [], _, _ => rfl
  | f :: fs, gs, p => by show plug (fs ++ gs) (f.w p) = plug gs (plug fs (f.w p)); exact plug_app fs gs _
theorem frs_ind {P : Pc → Prop} (h0 : ∀ p, inn p = none → P p) (h1 : ∀ p f q, inn p = some (f, q) → P q → P p) (p : Pc) : P p := by
  have : ∀ n (p : Pc), (frs p).length ≤ n → P p := by
    intro n
    induction n with
    | zero =>
      intro p hl
      cases e : inn p with
      | none => exact h0 p e
      | some r =>
        obtain ⟨f, q⟩ := r
        have := (inn_some e).1
        rw [this] at hl
        simp at hl
    | succ n ih =>
      intro p hl
      cases e : inn p with
      | none => exact h0 p e
      | some r =>
        obtain ⟨f, q⟩ := r
        have h2 := (inn_some e).1
        rw [h2] at hl
        exact h1 p f q e (ih q (by simpa using hl))
  exact this _ p (Nat.le_refl _)
theorem plug_frs (p : Pc) : plug (frs p).reverse (hd p) = p := by
  induction p using frs_ind with
  | h0 p h => rw [(inn_none h).1, (inn_none h).2]; rfl
  | h1 p f q h ih =>
    obtain ⟨e1, e2, e3, _⟩ := inn_some h
    rw [e1, e2, List.reverse_cons, plug_app, ih, e3]
    rfl
theorem hd_inn (p : Pc) : inn (hd p) = none := by
  induction p using frs_ind with
  | h0 p h => rw [(inn_none h).2]; exact h
  | h1 p f q h ih => rw [(inn_some h).2.1]; exact ih
theorem hd_isV {p : Pc} (h : p.isV = false) : (hd p).isV = false := by
  induction p using frs_ind with
  | h0 p h' => rw [(inn_none h').2]; exact h
  | h1 p f q h' ih => rw [(inn_some h').2.1]; exact ih (inn_some h').2.2.2.1
theorem frs_cd (p : Pc) : (frs p).length + 1 ≤ cd p := by
  induction p using frs_ind with
  | h0 p h => rw [(inn_none h).1]; exact cd_pos' p
  | h1 p f q h ih =>
    obtain ⟨e1, e2, e3, _⟩ := inn_some h
    rw [e1, e3, List.length_cons]
    have : cd q + 1 ≤ cd (f.w q) := by cases f <;> simp only [Fr.w, cd] <;> omega
    omega
where cd_pos' : ∀ p : Pc, 1 ≤ cd p := by intro p; cases p <;> simp [cd]
/-- where the innermost round stands -/
theorem rix_none {l : List Fr} : rix l = none ↔ ∀ f ∈ l, f ≠ .rnd := by
  induction l with
  | nil => simp [rix]
  | cons f l ih =>
    cases f <;> simp [rix, ih]
theorem rix_some : ∀ {l : List Fr} {n : Nat}, rix l = some n → ∃ l1 l2, l = l1 ++ .rnd :: l2 ∧ l1.length = n ∧ ∀ f ∈ l1, f ≠ .rnd
  | [], _, h => by simp [rix] at h
  | f :: l, n, h => by
    cases f with
    | rnd => simp only [rix, Option.some.injEq] at h; subst h; exact ⟨[], l, rfl, rfl, by simp⟩
    | caller a p =>
      simp only [rix, Option.map_eq_some_iff] at h
      obtain ⟨m, h1, h2⟩ := h
      obtain ⟨l1, l2, e, hl, hn⟩ := rix_some h1
      exact ⟨_ :: l1, l2, by rw [e]; rfl, by simp [hl, h2], by simpa using hn⟩
    | given a p =>
      simp only [rix, Option.map_eq_some_iff] at h
      obtain ⟨m, h1, h2⟩ := h
      obtain ⟨l1, l2, e, hl, hn⟩ := rix_some h1
      exact ⟨_ :: l1, l2, by rw [e]; rfl, by simp [hl, h2], by simpa using hn⟩
    | adder a p =>
      simp only [rix, Option.map_eq_some_iff] at h
      obtain ⟨m, h1, h2⟩ := h
      obtain ⟨l1, l2, e, hl, hn⟩ := rix_some h1
      exact ⟨_ :: l1, l2, by rw [e]; rfl, by simp [hl, h2], by simpa using hn⟩
    | added a p =>
      simp only [rix, Option.map_eq_some_iff] at h
      obtain ⟨m, h1, h2⟩ := h
      obtain ⟨l1, l2, e, hl, hn⟩ := rix_some h1
      exact ⟨_ :: l1, l2, by rw [e]; rfl, by simp [hl, h2], by simpa using hn⟩
    | picker a p q =>
      simp only [rix, Option.map_eq_some_iff] at h
      obtain ⟨m, h1, h2⟩ := h
      obtain ⟨l1, l2, e, hl, hn⟩ := rix_some h1
      exact ⟨_ :: l1, l2, by rw [e]; rfl, by simp [hl, h2], by simpa using hn⟩
theorem rix_lt {l : List Fr} {n : Nat} (h : rix l = some n) : n < l.length := by
  obtain ⟨l1, l2, e, hl, _⟩ := rix_some h
  rw [e]; simp; omega
theorem ds_len : ∀ l : List Fr, (Fr.ds l).length = l.length
  | [] => rfl
  | f :: l => by simp [Fr.ds, ds_len l]
theorem ds_app : ∀ l r : List Fr, Fr.ds (l ++ r) = Fr.ds l ++ Fr.ds r
  | [], r => rfl
  | f :: l, r => by simp [Fr.ds, ds_app l r]
theorem ds_map : ∀ l : List Fr, Fr.ds l = l.map Fr.d
  | [] => rfl
  | f :: l => by simp [Fr.ds, ds_map l]
theorem ds_rev (l : List Fr) : Fr.ds l.reverse = (Fr.ds l).reverse := by rw [ds_map, ds_map, List.map_reverse]
theorem ds_take (l : List Fr) (n : Nat) : (Fr.ds l).take n = Fr.ds (l.take n) := by rw [ds_map, ds_map, List.map_take]
theorem ds_drop (l : List Fr) (n : Nat) : (Fr.ds l).drop n = Fr.ds (l.drop n) := by rw [ds_map, ds_map, List.map_drop]
/-! ### lists in data -/
theorem atI_last {α : Type} (xs : List α) (x : α) : atI (xs ++ [x]) (-1) = some x := by
  unfold atI ixN
  have h1 : ¬ (0 : Int) ≤ -1 := by decide
  have h2 : 0 ≤ -1 + ((xs ++ [x]).length : Int) := by simp; omega
  simp
  rw [if_pos (by omega)]
  have : (-1 + ((xs.length : Int) + 1)).toNat = xs.length := by omega
  simp [this]
theorem cut_take {α : Type} (xs : List α) (n : Nat) : cutD xs none (some (n : Int)) = xs.take n := by
  unfold cutD
  rw [HT.sIx_none, HT.sIx_nat]
  simp
theorem cut_drop {α : Type} (xs : List α) (n : Nat) : cutD xs (some (n : Int)) none = xs.drop n := by
  unfold cutD
  rw [HT.sIx_none, HT.sIx_nat]
  by_cases h : n ≤ xs.length
  · rw [Nat.min_eq_left h, List.take_of_length_le (by rw [List.length_drop]; omega)]
  · rw [Nat.min_eq_right (by omega), List.drop_of_length_le (Nat.le_refl _), List.drop_of_length_le (by omega)]
    simp
theorem cut_init {α : Type} (xs : List α) (x : α) : cutD (xs ++ [x]) none (some (-1)) = xs := by
  have e : HT.sIx (xs ++ [x]).length (xs ++ [x]).length (some (-1)) = xs.length := by unfold HT.sIx; simp; omega
  unfold cutD
  rw [HT.sIx_none, e]
  simp
theorem lcD_filter {gd : G} {c : T} {e : E} {δ : Sl} (P : D → Bool) (f : D → D) : ∀ {ds : List D} {S : List O}, (∀ d, d ∈ ds → ∃ δ1, gd d δ = some δ1 ∧ c δ1 S = some (P d, S) ∧ (P d = true → e δ1 S = some (f d, S))) → lcD gd c e δ ds S = some ((ds.filter P).map f, S)
  | [], _, _ => rfl
  | d :: ds, S, h => by
    obtain ⟨δ1, h1, h2, h3⟩ := h d List.mem_cons_self
    have ih := lcD_filter (gd := gd) (c := c) (e := e) (δ := δ) P f (ds := ds) (S := S) (fun d hd => h d (List.mem_cons_of_mem _ hd))
    rw [lcD_c, h1, lcK2_1, h2]
    cases hp : P d with
    | true => rw [lcK3_1, h3 hp, lcK4_1, ih, lcK5_1, List.filter_cons_of_pos hp]; rfl
    | false => rw [lcK3_2, ih, List.filter_cons_of_neg (by simp [hp])]
theorem lcD_fil {α : Type} {gd : G} {c : T} {e : E} {δ : Sl} (P : α → Bool) (h g : α → D) : ∀ {l : List α} {S : List O}, (∀ a, a ∈ l → ∃ δ1, gd (h a) δ = some δ1 ∧ c δ1 S = some (P a, S) ∧ (P a = true → e δ1 S = some (g a, S))) → lcD gd c e δ (l.map h) S = some ((l.filter P).map g, S)
  | [], _, _ => rfl
  | d :: ds, S, hh => by
    obtain ⟨δ1, h1, h2, h3⟩ := hh d List.mem_cons_self
    have ih := lcD_fil (gd := gd) (c := c) (e := e) (δ := δ) P h g (l := ds) (S := S) (fun d hd => hh d (List.mem_cons_of_mem _ hd))
    rw [List.map_cons, lcD_c, h1, lcK2_1, h2]
    cases hp : P d with
    | true => rw [lcK3_1, h3 hp, lcK4_1, ih, lcK5_1, List.filter_cons_of_pos hp]; rfl
    | false => rw [lcK3_2, ih, List.filter_cons_of_neg (by simp [hp])]
theorem lcD_mapL {α : Type} {gd : G} {c : T} {e : E} {δ : Sl} (h g : α → D) {l : List α} {S : List O} (hh : ∀ a, a ∈ l → ∃ δ1, gd (h a) δ = some δ1 ∧ c δ1 S = some (true, S) ∧ e δ1 S = some (g a, S)) : lcD gd c e δ (l.map h) S = some (l.map g, S) := by
  have := lcD_fil (gd := gd) (c := c) (e := e) (δ := δ) (fun _ => true) h g (l := l) (S := S) (fun a ha => let ⟨δ1, h1, h2, h3⟩ := hh a ha; ⟨δ1, h1, h2, fun _ => h3⟩)
  rw [this, List.filter_eq_self.mpr (fun _ _ => rfl)]
end Cb
namespace Cb
open PySem PySem.Spec PyProof.Rows L2
/-! ## how big pieces get, step by step -/
mutual
/-- how deep the data stands -/
def fd : Pc → Nat
  | .num _ => 1
  | .name _ => 1
  | .fn _ _ b => fd b + 1
  | .call _ f g => max (fd f) (fd g) + 1
  | .plus _ f g => max (fd f) (fd g) + 1
  | .pick _ c f g => max (fd c) (max (fd f) (fd g)) + 1
  | .rnd b => fd b + 1
  | .take _ _ b => fd b + 1
  | .shut _ _ b => fd b + 1
  | .kept _ fs => fdF fs + 2
def fdR : Fr → Nat
  | .caller _ p => fd p + 1
  | .given _ p => fd p + 1
  | .adder _ p => fd p + 1
  | .added _ p => fd p + 1
  | .picker _ p q => max (fd p) (fd q) + 1
  | .rnd => 1
def fdF : List Fr → Nat
  | [] => 0
  | f :: fs => max (fdR f) (fdF fs)
end
mutual
theorem fd_is : ∀ p : Pc, (py p.d).depth = fd p
  | .num _ => by simp [Pc.d, py, pyL, PyData.depth, PyData.depthAll, fd]
  | .name _ => by simp [Pc.d, py, pyL, PyData.depth, PyData.depthAll, fd]
  | .fn _ _ b => by simp [Pc.d, py, pyL, PyData.depth, PyData.depthAll, fd, fd_is b]
  | .call _ f g => by simp [Pc.d, py, pyL, PyData.depth, PyData.depthAll, fd, fd_is f, fd_is g]
  | .plus _ f g => by simp [Pc.d, py, pyL, PyData.depth, PyData.depthAll, fd, fd_is f, fd_is g]
  | .pick _ c f g => by simp [Pc.d, py, pyL, PyData.depth, PyData.depthAll, fd, fd_is c, fd_is f, fd_is g]
  | .rnd b => by simp [Pc.d, py, pyL, PyData.depth, PyData.depthAll, fd, fd_is b]
  | .take _ _ b => by simp [Pc.d, py, pyL, PyData.depth, PyData.depthAll, fd, fd_is b]
  | .shut _ _ b => by simp [Pc.d, py, pyL, PyData.depth, PyData.depthAll, fd, fd_is b]
  | .kept _ fs => by simp [Pc.d, py, pyL, PyData.depth, PyData.depthAll, fd, fdF_is fs]
theorem fdR_is : ∀ f : Fr, (py f.d).depth = fdR f
  | .caller _ p => by simp [Fr.d, py, pyL, PyData.depth, PyData.depthAll, fdR, fd_is p]
  | .given _ p => by simp [Fr.d, py, pyL, PyData.depth, PyData.depthAll, fdR, fd_is p]
  | .adder _ p => by simp [Fr.d, py, pyL, PyData.depth, PyData.depthAll, fdR, fd_is p]
  | .added _ p => by simp [Fr.d, py, pyL, PyData.depth, PyData.depthAll, fdR, fd_is p]
  | .picker _ p q => by simp [Fr.d, py, pyL, PyData.depth, PyData.depthAll, fdR, fd_is p, fd_is q]
  | .rnd => by simp [Fr.d, py, pyL, PyData.depth, PyData.depthAll, fdR]
theorem fdF_is : ∀ fs : List Fr, PyData.depthAll (pyL (Fr.ds fs)) = fdF fs
  | [] => by simp [Fr.ds, pyL, PyData.depthAll, fdF]
  | f :: fs => by simp [Fr.ds, pyL, PyData.depthAll, fdF, fdR_is f, fdF_is fs]
end
/-- the longest way without a round from here; anywhere within -/
def us : Pc → Nat
  | .call _ f g => max (us f) (us g) + 1
  | .plus _ f g => max (us f) (us g) + 1
  | .pick _ c f g => max (us c) (max (us f) (us g)) + 1
  | _ => 0
def ms : Pc → Nat
  | .call _ f g => max (max (us f) (us g) + 1) (max (ms f) (ms g))
  | .plus _ f g => max (max (us f) (us g) + 1) (max (ms f) (ms g))
  | .pick _ c f g => max (max (us c) (max (us f) (us g)) + 1) (max (ms c) (max (ms f) (ms g)))
  | .rnd b => ms b
  | _ => 0
theorem us_ms : ∀ p : Pc, us p ≤ ms p := by intro p; cases p <;> simp only [us, ms] <;> omega
theorem us_cd : ∀ p : Pc, us p ≤ cd p
  | .call _ f g => by have := us_cd f; have := us_cd g; simp only [us, cd]; omega
  | .plus _ f g => by have := us_cd f; have := us_cd g; simp only [us, cd]; omega
  | .pick _ c f g => by have := us_cd c; have := us_cd f; have := us_cd g; simp only [us, cd]; omega
  | .num _ => by simp [us]
  | .name _ => by simp [us]
  | .fn .. => by simp [us]
  | .rnd _ => by simp [us]
  | .take .. => by simp [us]
  | .shut .. => by simp [us]
  | .kept .. => by simp [us]
theorem ms_cd : ∀ p : Pc, ms p ≤ cd p
  | .call _ f g => by have := us_cd f; have := us_cd g; have := ms_cd f; have := ms_cd g; simp only [ms, cd]; omega
  | .plus _ f g => by have := us_cd f; have := us_cd g; have := ms_cd f; have := ms_cd g; simp only [ms, cd]; omega
  | .pick _ c f g => by have := us_cd c; have := us_cd f; have := us_cd g; have := ms_cd c; have := ms_cd f; have := ms_cd g; simp only [ms, cd]; omega
  | .rnd b => by have := ms_cd b; simp only [ms, cd]; omega
  | .num _ => by simp [ms]
  | .name _ => by simp [ms]
  | .fn .. => by simp [ms]
  | .take .. => by simp [ms]
  | .shut .. => by simp [ms]
  | .kept .. => by simp [ms]
mutual
def Ok (M V : Nat) : List Str → Pc → Prop
  | _, .num _ => True
  | sc, .name x => x ∈ sc ∧ nmOk x
  | sc, .fn _ x b => nmOk x ∧ cd b ≤ 10 ∧ Ok M V (x :: sc) b
  | sc, .call _ f g => Ok M V sc f ∧ Ok M V sc g
  | sc, .plus _ f g => Ok M V sc f ∧ Ok M V sc g
  | sc, .pick _ c f g => Ok M V sc c ∧ Ok M V sc f ∧ Ok M V sc g
  | sc, .rnd b => Ok M V sc b
  | sc, .take _ x b => nmOk x ∧ cd b ≤ 10 ∧ Ok M V (x :: sc) b
  | _, .shut _ x b => nmOk x ∧ cd b ≤ 10 ∧ fd b + 1 ≤ V ∧ Ok M V [x] b
  | _, .kept _ fs => fs.length ≤ M ∧ ms (plug fs (.num 0)) ≤ M ∧ OkF M V fs
def OkR (M V : Nat) : Fr → Prop
  | .caller _ p => cd p ≤ 30 ∧ fd p + 3 ≤ V ∧ Ok M V [] p
  | .given _ v => v.isV = true ∧ fd v + 3 ≤ V ∧ Ok M V [] v
  | .adder _ p => cd p ≤ 30 ∧ fd p + 3 ≤ V ∧ Ok M V [] p
  | .added _ v => v.isV = true ∧ fd v + 3 ≤ V ∧ Ok M V [] v
  | .picker _ p q => (cd p ≤ 30 ∧ fd p + 3 ≤ V ∧ Ok M V [] p) ∧ cd q ≤ 30 ∧ fd q + 3 ≤ V ∧ Ok M V [] q
  | .rnd => True
def OkF (M V : Nat) : List Fr → Prop
  | [] => True
  | f :: fs => OkR M V f ∧ OkF M V fs
end
mutual
theorem Ok.mono {M M' V V' : Nat} (hM : M ≤ M') (hV : V ≤ V') : ∀ {p : Pc} {sc sc' : List Str}, (∀ y ∈ sc, y ∈ sc') → Ok M V sc p → Ok M' V' sc' p
  | .num _, _, _, _, _ => trivial
  | .name _, _, _, h, ⟨h1, h2⟩ => ⟨h _ h1, h2⟩
  | .fn _ x b, _, _, h, ⟨h1, h2, h3⟩ => ⟨h1, h2, Ok.mono hM hV (fun y hy => by
      rcases List.mem_cons.mp hy with q | q
      · rw [q]; exact List.mem_cons_self
      · exact List.mem_cons_of_mem _ (h y q)) h3⟩
  | .call _ f g, _, _, h, ⟨h1, h2⟩ => ⟨Ok.mono hM hV h h1, Ok.mono hM hV h h2⟩
  | .plus _ f g, _, _, h, ⟨h1, h2⟩ => ⟨Ok.mono hM hV h h1, Ok.mono hM hV h h2⟩
  | .pick _ c f g, _, _, h, ⟨h1, h2, h3⟩ => ⟨Ok.mono hM hV h h1, Ok.mono hM hV h h2, Ok.mono hM hV h h3⟩
  | .rnd b, sc, sc', h, h1 => by
    show Ok M' V' sc' b
    exact Ok.mono (p := b) (sc := sc) hM hV h h1
  | .take _ x b, _, _, h, ⟨h1, h2, h3⟩ => ⟨h1, h2, Ok.mono hM hV (fun y hy => by
      rcases List.mem_cons.mp hy with q | q
      · rw [q]; exact List.mem_cons_self
      · exact List.mem_cons_of_mem _ (h y q)) h3⟩
  | .shut _ x b, _, _, h, ⟨h1, h2, h3, h4⟩ => ⟨h1, h2, Nat.le_trans h3 hV, Ok.mono hM hV (fun y hy => hy) h4⟩
  | .kept _ fs, _, _, h, ⟨h1, h2, h3⟩ => ⟨Nat.le_trans h1 hM, Nat.le_trans h2 hM, OkF.mono hM hV h3⟩
theorem OkR.mono {M M' V V' : Nat} (hM : M ≤ M') (hV : V ≤ V') : ∀ {f : Fr}, OkR M V f → OkR M' V' f
  | .caller _ p, ⟨h1, h2, h3⟩ => ⟨h1, Nat.le_trans h2 hV, Ok.mono hM hV (fun y hy => hy) h3⟩
  | .given _ p, ⟨h1, h2, h3⟩ => ⟨h1, Nat.le_trans h2 hV, Ok.mono hM hV (fun y hy => hy) h3⟩
  | .adder _ p, ⟨h1, h2, h3⟩ => ⟨h1, Nat.le_trans h2 hV, Ok.mono hM hV (fun y hy => hy) h3⟩
  | .added _ p, ⟨h1, h2, h3⟩ => ⟨h1, Nat.le_trans h2 hV, Ok.mono hM hV (fun y hy => hy) h3⟩
  | .picker _ p q, ⟨⟨h1, h2, h3⟩, h4, h5, h6⟩ => ⟨⟨h1, Nat.le_trans h2 hV, Ok.mono hM hV (fun y hy => hy) h3⟩, h4, Nat.le_trans h5 hV, Ok.mono hM hV (fun y hy => hy) h6⟩
  | .rnd, _ => trivial
theorem OkF.mono {M M' V V' : Nat} (hM : M ≤ M') (hV : V ≤ V') : ∀ {fs : List Fr}, OkF M V fs → OkF M' V' fs
  | [], _ => trivial
  | f :: fs, ⟨h1, h2⟩ => ⟨OkR.mono hM hV h1, OkF.mono hM hV h2⟩
end
theorem Ok.put {M V : Nat} {x : Str} {v : Pc} (hv : Ok M V [] v) : ∀ {p : Pc} {sc sc' : List Str}, (∀ y ∈ sc, y = x ∨ y ∈ sc') → (v.isV = true) → Ok M V sc p → Ok M V sc' (put x v p)
  | .num _, _, _, _, _, _ => trivial
  | .name y, sc, sc', h, _, ⟨h1, h2⟩ => by
    simp only [Cb.put]
    split
    · exact hv.mono (Nat.le_refl _) (Nat.le_refl _) (by simp)
    · rename_i hne
      rcases h y h1 with q | q
      · exact absurd q hne
      · exact ⟨q, h2⟩
  | .fn a y b, sc, sc', h, hvv, ⟨h1, h2, h3⟩ => by
    simp only [Cb.put]
    split
    · rename_i e
      refine ⟨h1, h2, h3.mono (Nat.le_refl _) (Nat.le_refl _) fun z hz => ?_⟩
      rcases List.mem_cons.mp hz with q | q
      · rw [q]; exact List.mem_cons_self
      · rcases h z q with q | q
        · rw [q, e]; exact List.mem_cons_self
        · exact List.mem_cons_of_mem _ q
    · refine ⟨h1, by rw [cd_put' x v hvv]; exact h2, Ok.put (p := b) hv (fun z hz => ?_) hvv h3⟩
      rcases List.mem_cons.mp hz with q | q
      · rw [q]; exact .inr List.mem_cons_self
      · rcases h z q with q | q
        · exact .inl q
        · exact .inr (List.mem_cons_of_mem _ q)
  | .take a y b, sc, sc', h, hvv, ⟨h1, h2, h3⟩ => by
    simp only [Cb.put]
    split
    · rename_i e
      refine ⟨h1, h2, h3.mono (Nat.le_refl _) (Nat.le_refl _) fun z hz => ?_⟩
      rcases List.mem_cons.mp hz with q | q
      · rw [q]; exact List.mem_cons_self
      · rcases h z q with q | q
        · rw [q, e]; exact List.mem_cons_self
        · exact List.mem_cons_of_mem _ q
    · refine ⟨h1, by rw [cd_put' x v hvv]; exact h2, Ok.put (p := b) hv (fun z hz => ?_) hvv h3⟩
      rcases List.mem_cons.mp hz with q | q
      · rw [q]; exact .inr List.mem_cons_self
      · rcases h z q with q | q
        · exact .inl q
        · exact .inr (List.mem_cons_of_mem _ q)
  | .call a f g, sc, sc', h, hvv, ⟨h1, h2⟩ => ⟨Ok.put (p := f) hv h hvv h1, Ok.put (p := g) hv h hvv h2⟩
  | .plus a f g, sc, sc', h, hvv, ⟨h1, h2⟩ => ⟨Ok.put (p := f) hv h hvv h1, Ok.put (p := g) hv h hvv h2⟩
  | .pick a c f g, sc, sc', h, hvv, ⟨h1, h2, h3⟩ => ⟨Ok.put (p := c) hv h hvv h1, Ok.put (p := f) hv h hvv h2, Ok.put (p := g) hv h hvv h3⟩
  | .rnd b, sc, sc', h, hvv, h1 => by
    show Ok M V sc' (Cb.put x v b)
    exact Ok.put (p := b) (sc := sc) hv h hvv h1
  | .shut .., _, _, _, _, h => h
  | .kept .., _, _, _, _, h => h
where cd_put' (x : Str) (v : Pc) (hv : v.isV = true) : ∀ (p : Pc), cd (Cb.put x v p) = cd p
  | .num _ => rfl
  | .name y => by
    simp only [Cb.put]
    split
    · cases v <;> first | rfl | (simp [Pc.isV] at hv; done)
    · rfl
  | .fn a y b => by simp only [Cb.put]; split <;> simp [cd, cd_put' x v hv b]
  | .take a y b => by simp only [Cb.put]; split <;> simp [cd, cd_put' x v hv b]
  | .call _ f g => by simp [Cb.put, cd, cd_put' x v hv f, cd_put' x v hv g]
  | .plus _ f g => by simp [Cb.put, cd, cd_put' x v hv f, cd_put' x v hv g]
  | .pick _ c f g => by simp [Cb.put, cd, cd_put' x v hv c, cd_put' x v hv f, cd_put' x v hv g]
  | .rnd b => by simp [Cb.put, cd, cd_put' x v hv b]
  | .shut .. => rfl
  | .kept .. => rfl
theorem str_lay (s : Str) (h : PyData.strOk s = true) : (py (.str s)).canLay0 = true := by simpa [py, PyData.canLay0] using h
mutual
theorem Ok.lay {M V : Nat} : ∀ {p : Pc} {sc : List Str}, Ok M V sc p → (py p.d).canLay0 = true
  | .num _, _, _ => by simp [Pc.d, py, pyL, PyData.canLay0, PyData.canLayAll0]; decide +kernel
  | .name x, _, h => by simp [Pc.d, py, pyL, PyData.canLay0, PyData.canLayAll0, nm_strOk h.2]; decide +kernel
  | .fn a x b, _, h => by simp [Pc.d, py, pyL, PyData.canLay0, PyData.canLayAll0, nm_strOk h.1, Ok.lay h.2.2]; decide +kernel
  | .call _ f g, _, h => by simp [Pc.d, py, pyL, PyData.canLay0, PyData.canLayAll0, Ok.lay h.1, Ok.lay h.2]; decide +kernel
  | .plus _ f g, _, h => by simp [Pc.d, py, pyL, PyData.canLay0, PyData.canLayAll0, Ok.lay h.1, Ok.lay h.2]; decide +kernel
  | .pick _ c f g, _, h => by simp [Pc.d, py, pyL, PyData.canLay0, PyData.canLayAll0, Ok.lay h.1, Ok.lay h.2.1, Ok.lay h.2.2]; decide +kernel
  | .rnd b, sc, h => by
    have h' : Ok M V sc b := h
    simp [Pc.d, py, pyL, PyData.canLay0, PyData.canLayAll0, Ok.lay h']; decide +kernel
  | .take a x b, _, h => by simp [Pc.d, py, pyL, PyData.canLay0, PyData.canLayAll0, nm_strOk h.1, Ok.lay h.2.2]; decide +kernel
  | .shut a x b, _, h => by simp [Pc.d, py, pyL, PyData.canLay0, PyData.canLayAll0, nm_strOk h.1, Ok.lay h.2.2.2]; decide +kernel
  | .kept a fs, _, h => by simp [Pc.d, py, pyL, PyData.canLay0, PyData.canLayAll0, OkF.lay h.2.2]; decide +kernel
theorem OkR.lay {M V : Nat} : ∀ {f : Fr}, OkR M V f → (py f.d).canLay0 = true
  | .caller _ p, h => by simp [Fr.d, py, pyL, PyData.canLay0, PyData.canLayAll0, Ok.lay h.2.2]; decide +kernel
  | .given _ p, h => by simp [Fr.d, py, pyL, PyData.canLay0, PyData.canLayAll0, Ok.lay h.2.2]; decide +kernel
  | .adder _ p, h => by simp [Fr.d, py, pyL, PyData.canLay0, PyData.canLayAll0, Ok.lay h.2.2]; decide +kernel
  | .added _ p, h => by simp [Fr.d, py, pyL, PyData.canLay0, PyData.canLayAll0, Ok.lay h.2.2]; decide +kernel
  | .picker _ p q, h => by simp [Fr.d, py, pyL, PyData.canLay0, PyData.canLayAll0, Ok.lay h.1.2.2, Ok.lay h.2.2.2]; decide +kernel
  | .rnd, _ => by simp [Fr.d, py, pyL, PyData.canLay0, PyData.canLayAll0]; decide +kernel
theorem OkF.lay {M V : Nat} : ∀ {fs : List Fr}, OkF M V fs → PyData.canLayAll0 (pyL (Fr.ds fs)) = true
  | [], _ => by simp [Fr.ds, pyL, PyData.canLayAll0]
  | f :: fs, h => by simp [Fr.ds, pyL, PyData.canLayAll0, OkR.lay h.1, OkF.lay h.2]
end
theorem OkR.fd {M V : Nat} (h3 : 3 ≤ V) {f : Fr} (h : OkR M V f) : fdR f + 2 ≤ V := by
  cases f with
  | caller a p => obtain ⟨h1, h2, _⟩ := h; simp only [fdR]; omega
  | given a p => obtain ⟨h1, h2, _⟩ := h; simp only [fdR]; omega
  | adder a p => obtain ⟨h1, h2, _⟩ := h; simp only [fdR]; omega
  | added a p => obtain ⟨h1, h2, _⟩ := h; simp only [fdR]; omega
  | picker a p q => obtain ⟨⟨h1, h2, _⟩, h4, h5, _⟩ := h; simp only [fdR]; omega
  | rnd => simp only [fdR]; omega
theorem OkF.fd {M V : Nat} (h3 : 3 ≤ V) : ∀ {fs : List Fr}, OkF M V fs → fdF fs + 2 ≤ V
  | [], _ => by simp only [fdF]; omega
  | f :: fs, h => by
    have h1 := h.1.fd h3
    have h2 := OkF.fd h3 h.2
    simp only [fdF]
    omega
/-- a value's depth; a piece's -/
theorem Ok.fdV {M V : Nat} (h3 : 3 ≤ V) {v : Pc} {sc : List Str} (h : Ok M V sc v) (hv : v.isV = true) : fd v ≤ V := by
  cases v with
  | num n => simp only [Cb.fd]; omega
  | shut a x b => simp only [Cb.fd]; exact h.2.2.1
  | kept a fs => simp only [Cb.fd]; exact OkF.fd h3 h.2.2
  | _ => simp [Pc.isV] at hv
theorem Ok.fd {M V : Nat} (h3 : 3 ≤ V) : ∀ {p : Pc} {sc : List Str}, Ok M V sc p → fd p ≤ cd p + V
  | .num _, _, _ => by simp only [Cb.fd, cd]; omega
  | .name x, _, h => by simp only [Cb.fd, cd]; omega
  | .fn a x b, _, h => by have := Ok.fd h3 h.2.2; simp only [Cb.fd, cd]; omega
  | .call _ f g, _, h => by have := Ok.fd h3 h.1; have := Ok.fd h3 h.2; simp only [Cb.fd, cd]; omega
  | .plus _ f g, _, h => by have := Ok.fd h3 h.1; have := Ok.fd h3 h.2; simp only [Cb.fd, cd]; omega
  | .pick _ c f g, _, h => by have := Ok.fd h3 h.1; have := Ok.fd h3 h.2.1; have := Ok.fd h3 h.2.2; simp only [Cb.fd, cd]; omega
  | .rnd b, sc, h => by
    have h' : Ok M V sc b := h
    have := Ok.fd h3 h'; simp only [Cb.fd, cd]; omega
  | .take a x b, _, h => by have := Ok.fd h3 h.2.2; simp only [Cb.fd, cd]; omega
  | .shut a x b, sc, h => by have := Ok.fdV h3 h rfl; simp only [cd]; omega
  | .kept a fs, sc, h => by have := Ok.fdV h3 h rfl; simp only [cd]; omega
/-! ### the way down -/
def Sp : Pc → Prop
  | .rnd b => Sp b
  | .pick _ c f g => Sp c ∧ cd f ≤ 30 ∧ cd g ≤ 30
  | .call _ f g => (f.isV = true ∧ Sp g) ∨ (Sp f ∧ cd g ≤ 30)
  | .plus _ f g => (f.isV = true ∧ Sp g) ∨ (Sp f ∧ cd g ≤ 30)
  | _ => True
theorem sp_of : ∀ {p : Pc}, cd p ≤ 31 → Sp p
  | .rnd b, h => by simp only [cd] at h; exact sp_of (p := b) (by omega)
  | .pick _ c f g, h => by simp only [cd] at h; exact ⟨sp_of (by omega), by omega, by omega⟩
  | .call _ f g, h => by simp only [cd] at h; exact .inr ⟨sp_of (by omega), by omega⟩
  | .plus _ f g, h => by simp only [cd] at h; exact .inr ⟨sp_of (by omega), by omega⟩
  | .num _, _ => trivial
  | .name _, _ => trivial
  | .fn .., _ => trivial
  | .take .., _ => trivial
  | .shut .., _ => trivial
  | .kept .., _ => trivial
def FrP (M V : Nat) : Fr → Prop
  | .caller _ p => cd p ≤ 30 ∧ Ok M V [] p
  | .given _ v => v.isV = true ∧ Ok M V [] v
  | .adder _ p => cd p ≤ 30 ∧ Ok M V [] p
  | .added _ v => v.isV = true ∧ Ok M V [] v
  | .picker _ p q => (cd p ≤ 30 ∧ Ok M V [] p) ∧ cd q ≤ 30 ∧ Ok M V [] q
  | .rnd => True
theorem OkR.frP {M V : Nat} {f : Fr} (h : OkR M V f) : FrP M V f := by
  cases f with
  | caller a p => exact ⟨h.1, h.2.2⟩
  | given a p => exact ⟨h.1, h.2.2⟩
  | adder a p => exact ⟨h.1, h.2.2⟩
  | added a p => exact ⟨h.1, h.2.2⟩
  | picker a p q => exact ⟨⟨h.1.1, h.1.2.2⟩, h.2.1, h.2.2.2⟩
  | rnd => trivial
theorem OkF.frP {M V : Nat} : ∀ {fs : List Fr}, OkF M V fs → ∀ f ∈ fs, FrP M V f
  | [], _, f, hf => by simp at hf
  | g :: fs, h, f, hf => by
    rcases List.mem_cons.mp hf with q | q
    · rw [q]; exact h.1.frP
    · exact OkF.frP h.2 f q
theorem FrP.okR {M V : Nat} (h3 : 3 ≤ V) {f : Fr} (h : FrP M V f) : OkR M (V + 33) f := by
  have m : ∀ {p : Pc} {sc : List Str}, Ok M V sc p → Ok M (V + 33) sc p := fun h => h.mono (Nat.le_refl _) (by omega) fun _ y => y
  cases f with
  | caller a p => exact ⟨h.1, by have := h.2.fd h3; have := h.1; omega, m h.2⟩
  | given a p => exact ⟨h.1, by have := h.2.fdV h3 h.1; omega, m h.2⟩
  | adder a p => exact ⟨h.1, by have := h.2.fd h3; have := h.1; omega, m h.2⟩
  | added a p => exact ⟨h.1, by have := h.2.fdV h3 h.1; omega, m h.2⟩
  | picker a p q => exact ⟨⟨h.1.1, by have := h.1.2.fd h3; have := h.1.1; omega, m h.1.2⟩, h.2.1, by have := h.2.2.fd h3; have := h.2.1; omega, m h.2.2⟩
  | rnd => trivial
theorem okF_of {M V : Nat} (h3 : 3 ≤ V) : ∀ {fs : List Fr}, (∀ f ∈ fs, FrP M V f) → OkF M (V + 33) fs
  | [], _ => trivial
  | f :: fs, h => ⟨(h f List.mem_cons_self).okR h3, okF_of h3 fun g hg => h g (List.mem_cons_of_mem _ hg)⟩
theorem w_ok {M V : Nat} {f : Fr} {q : Pc} (h : FrP M V f) (hq : Ok M V [] q) : Ok M V [] (f.w q) := by
  cases f with
  | caller a p => exact ⟨hq, h.2⟩
  | given a p => exact ⟨h.2, hq⟩
  | adder a p => exact ⟨hq, h.2⟩
  | added a p => exact ⟨h.2, hq⟩
  | picker a p q => exact ⟨hq, h.1.2, h.2.2⟩
  | rnd => exact hq
theorem w_sp {M V : Nat} {f : Fr} {q : Pc} (h : FrP M V f) (hq : Sp q) : Sp (f.w q) := by
  cases f with
  | caller a p => exact .inr ⟨hq, h.1⟩
  | given a p => exact .inl ⟨h.1, hq⟩
  | adder a p => exact .inr ⟨hq, h.1⟩
  | added a p => exact .inl ⟨h.1, hq⟩
  | picker a p q => exact ⟨hq, h.1.1, h.2.1⟩
  | rnd => exact hq
theorem plug_ok {M V : Nat} : ∀ {fs : List Fr} {q : Pc}, (∀ f ∈ fs, FrP M V f) → Ok M V [] q → Ok M V [] (plug fs q)
  | [], _, _, h => h
  | f :: fs, q, h, hq => plug_ok (fs := fs) (fun g hg => h g (List.mem_cons_of_mem _ hg)) (w_ok (h f List.mem_cons_self) hq)
theorem plug_sp {M V : Nat} : ∀ {fs : List Fr} {q : Pc}, (∀ f ∈ fs, FrP M V f) → Sp q → Sp (plug fs q)
  | [], _, _, h => h
  | f :: fs, q, h, hq => plug_sp (fs := fs) (fun g hg => h g (List.mem_cons_of_mem _ hg)) (w_sp (h f List.mem_cons_self) hq)
theorem down {M V : Nat} (p : Pc) (h : Ok M V [] p) (hs : Sp p) : (∀ f ∈ frs p, FrP M V f) ∧ Ok M V [] (hd p) ∧ Sp (hd p) := by
  induction p using frs_ind with
  | h0 p hi => rw [(inn_none hi).1, (inn_none hi).2]; exact ⟨by simp, h, hs⟩
  | h1 p f q hi ih =>
    obtain ⟨e1, e2, e3, e4, _⟩ := inn_some hi
    have key : FrP M V f ∧ Ok M V [] q ∧ Sp q := by
      subst e3
      cases f with
      | rnd => exact ⟨trivial, h, hs⟩
      | caller a g =>
        refine ⟨⟨?_, h.2⟩, h.1, ?_⟩
        · rcases hs with z | z
          · rw [e4] at z; exact absurd z.1 (by simp)
          · exact z.2
        · rcases hs with z | z
          · rw [e4] at z; exact absurd z.1 (by simp)
          · exact z.1
      | adder a g =>
        refine ⟨⟨?_, h.2⟩, h.1, ?_⟩
        · rcases hs with z | z
          · rw [e4] at z; exact absurd z.1 (by simp)
          · exact z.2
        · rcases hs with z | z
          · rw [e4] at z; exact absurd z.1 (by simp)
          · exact z.1
      | given a g =>
        have hv : g.isV = true := by
          cases w : g.isV with
          | true => rfl
          | false => simp [Fr.w, inn, w] at hi
        refine ⟨⟨hv, h.1⟩, h.2, ?_⟩
        rcases hs with z | z
        · exact z.2
        · exact sp_of (by have := z.2; omega)
      | added a g =>
        have hv : g.isV = true := by
          cases w : g.isV with
          | true => rfl
          | false => simp [Fr.w, inn, w] at hi
        refine ⟨⟨hv, h.1⟩, h.2, ?_⟩
        rcases hs with z | z
        · exact z.2
        · exact sp_of (by have := z.2; omega)
      | picker a p1 p2 => exact ⟨⟨⟨hs.2.1, h.2.1⟩, hs.2.2, h.2.2⟩, h.1, hs.1⟩
    obtain ⟨k1, k2, k3⟩ := ih key.2.1 key.2.2
    rw [e1, e2]
    exact ⟨fun g hg => by
      rcases List.mem_cons.mp hg with z | z
      · rw [z]; exact key.1
      · exact k1 g z, k2, k3⟩
theorem plug_ms {d M0 : Nat} : ∀ {fs : List Fr} {h q : Pc}, us q ≤ us h + d → ms q ≤ max (ms h + d) M0 → us (plug fs q) ≤ us (plug fs h) + d ∧ ms (plug fs q) ≤ max (ms (plug fs h) + d) M0
  | [], _, _, a, b => ⟨a, b⟩
  | f :: fs, h, q, a, b => by
    refine plug_ms (fs := fs) (h := f.w h) (q := f.w q) ?_ ?_
    · cases f <;> simp only [Fr.w, us] <;> omega
    · cases f <;> simp only [Fr.w, ms] <;> omega
theorem plug_cd {d : Nat} : ∀ {fs : List Fr} {h q : Pc}, cd q ≤ cd h + d → cd (plug fs q) ≤ cd (plug fs h) + d
  | [], _, _, a => a
  | f :: fs, h, q, a => by
    refine plug_cd (fs := fs) (h := f.w h) (q := f.w q) ?_
    cases f <;> simp only [Fr.w, cd] <;> omega
theorem plug_len {M V : Nat} : ∀ {fs : List Fr} {q : Pc}, (∀ f ∈ fs, FrP M V f) → cd (plug fs q) ≤ fs.length + max (cd q) 30
  | [], _, _ => by simp only [plug, List.length_nil]; omega
  | f :: fs, q, h => by
    have h1 := plug_len (fs := fs) (q := f.w q) (fun g hg => h g (List.mem_cons_of_mem _ hg))
    have h2 := h f List.mem_cons_self
    have hv : ∀ v : Pc, v.isV = true → cd v = 1 := by intro v hv; cases v <;> simp_all [Pc.isV, cd]
    have h3 : cd (f.w q) ≤ max (cd q) 30 + 1 := by
      have hq := cd_pos'' q
      cases f with
      | caller a p => have := h2.1; simp only [Fr.w, cd]; omega
      | given a p => have := hv _ h2.1; simp only [Fr.w, cd]; omega
      | adder a p => have := h2.1; simp only [Fr.w, cd]; omega
      | added a p => have := hv _ h2.1; simp only [Fr.w, cd]; omega
      | picker a p q => have := h2.1.1; have := h2.2.1; simp only [Fr.w, cd]; omega
      | rnd => simp only [Fr.w, cd]; omega
    simp only [plug, List.length_cons]
    omega
where cd_pos'' : ∀ p : Pc, 1 ≤ cd p := by intro p; cases p <;> simp [cd]
theorem plug_us : ∀ {fs : List Fr} {h : Pc}, (∀ f ∈ fs, f ≠ .rnd) → us h + fs.length ≤ us (plug fs h)
  | [], _, _ => Nat.le_refl _
  | f :: fs, h, hf => by
    have h1 := plug_us (fs := fs) (h := f.w h) (fun g hg => hf g (List.mem_cons_of_mem _ hg))
    have h2 : us h + 1 ≤ us (f.w h) := by
      have := hf f List.mem_cons_self
      cases f <;> simp only [Fr.w, us] <;> first | omega | contradiction
    simp only [plug, List.length_cons]
    omega
theorem plug_ms_le : ∀ {fs : List Fr} {h : Pc}, ms h ≤ ms (plug fs h)
  | [], _ => Nat.le_refl _
  | f :: fs, h => by
    have h1 := plug_ms_le (fs := fs) (h := f.w h)
    have h2 : ms h ≤ ms (f.w h) := by cases f <;> simp only [Fr.w, ms] <;> omega
    simp only [plug]
    omega
structure Gd (M V D : Nat) (p : Pc) : Prop where
  ok : Ok M V [] p
  sp : Sp p
  ms : ms p ≤ M
  cd : cd p ≤ D
theorem Gd.mono {M V D M' V' D' : Nat} {p : Pc} (h : Gd M V D p) (h1 : M ≤ M') (h2 : V ≤ V') (h3 : D ≤ D') : Gd M' V' D' p :=
  ⟨h.ok.mono h1 h2 fun _ y => y, h.sp, Nat.le_trans h.ms h1, Nat.le_trans h.cd h3⟩
theorem isV_num {v : Pc} (hv : v.isV = true) : us v = 0 ∧ Cb.ms v = 0 ∧ Cb.cd v = 1 := by cases v <;> simp_all [Pc.isV, us, Cb.ms, Cb.cd]
theorem Gd.step {M V D : Nat} {p q : Pc} (h3 : 3 ≤ V) (g : Gd M V D p) (hs : step p = .step q) : Gd (M + 10) (V + 33) (D + 10) q ∨ Gd M (V + 33) (D + M + 31) q := by
  have hv : p.isV = false := by
    cases w : p.isV with
    | false => rfl
    | true => simp [Cb.step, w] at hs
  have es : Cb.step p = stepH (frs p).reverse (hd p) := by unfold Cb.step; rw [hv]; rfl
  rw [es] at hs
  obtain ⟨d1, d2, d3⟩ := down p g.ok g.sp
  have ep := plug_frs p
  have gm := g.ms
  have gc := g.cd
  rw [← ep] at gm gc
  have d1' : ∀ f ∈ (frs p).reverse, FrP M V f := fun f hf => d1 f (List.mem_reverse.mp hf)
  generalize (frs p).reverse = L at hs gm gc d1'
  have hi := hd_inn p
  have hhv := hd_isV hv
  generalize hd p = h at hs gm gc d2 d3 hi hhv
  -- a new part in the place of what was next
  have new : ∀ (q : Pc), Ok M (V + 33) [] q → Sp q → us q ≤ us h + 0 → Cb.ms q ≤ max (Cb.ms h + 0) M → Cb.cd q ≤ Cb.cd h + 0 → Gd (M + 10) (V + 33) (D + 10) (plug L q) := by
    intro q q1 q2 q3 q4 q5
    have m := plug_ms (fs := L) q3 q4
    have c := plug_cd (fs := L) q5
    exact ⟨(plug_ok (fun f hf => ((d1' f hf).okR h3).frP) q1).mono (by omega) (Nat.le_refl _) fun _ y => y, plug_sp d1' q2, by have := m.2; omega, by omega⟩
  have mV : ∀ {p : Pc} {sc : List Str}, Ok M V sc p → Ok M (V + 33) sc p := fun h => h.mono (Nat.le_refl _) (by omega) fun _ y => y
  cases h with
  | num n => simp [Pc.isV] at hhv
  | shut a x b => simp [Pc.isV] at hhv
  | kept a fs => simp [Pc.isV] at hhv
  | name x => exact absurd d2.1 (by simp)
  | take a x b =>
    simp only [stepH] at hs
    cases hr : rix L with
    | none => rw [hr] at hs; simp at hs
    | some n =>
      rw [hr] at hs
      simp only [Stp.step.injEq] at hs
      subst hs
      obtain ⟨l1, l2, e1, e2, e3⟩ := rix_some hr
      have t1 : L.take n = l1 := by rw [e1, ← e2, List.take_left]
      have t2 : L.drop n = .rnd :: l2 := by rw [e1, ← e2, List.drop_left]
      rw [t1, t2]
      obtain ⟨n1, n2, n3⟩ := d2
      have f1 : ∀ f ∈ l1, FrP M V f := fun f hf => d1' f (by rw [e1]; exact List.mem_append_left _ hf)
      have f2 : ∀ f ∈ Fr.rnd :: l2, FrP M V f := fun f hf => d1' f (by rw [e1]; exact List.mem_append_right _ hf)
      rw [e1, plug_app] at gm gc
      have m1 : Cb.ms (plug l1 (.take a x b)) ≤ M := Nat.le_trans plug_ms_le gm
      have m2 : l1.length ≤ M := by
        have := plug_us (fs := l1) (h := .take a x b) e3
        have := us_ms (plug l1 (.take a x b))
        omega
      have m3 : Cb.ms (plug l1 (.num 0)) ≤ M := by
        have := (plug_ms (d := 0) (M0 := M) (fs := l1) (h := .take a x b) (q := .num 0) (by simp [us]) (by simp [Cb.ms])).2
        omega
      have kept : Ok M (V + 33) [] (.kept a l1) := ⟨m2, m3, okF_of h3 f1⟩
      have q1 : Ok M (V + 33) [] (Cb.put x (.kept a l1) b) := Ok.put kept (sc := [x]) (by simp) rfl (mV n3)
      have q2 : Cb.cd (Cb.put x (.kept a l1) b) ≤ 10 := by rw [Ok.put.cd_put' x _ rfl]; exact n2
      left
      refine ⟨(plug_ok (fun f hf => ((f2 f hf).okR h3).frP) q1).mono (by omega) (Nat.le_refl _) fun _ y => y, plug_sp f2 (sp_of (by omega)), ?_, ?_⟩
      · have := (plug_ms (d := 10) (M0 := 10) (fs := .rnd :: l2) (h := plug l1 (.take a x b)) (q := Cb.put x (.kept a l1) b) (by have := us_cd (Cb.put x (.kept a l1) b); omega) (by have := ms_cd (Cb.put x (.kept a l1) b); omega)).2
        omega
      · have := plug_cd (d := 10) (fs := .rnd :: l2) (h := plug l1 (.take a x b)) (q := Cb.put x (.kept a l1) b) (by omega)
        omega
  | fn a x b =>
    simp only [stepH, becomes, Stp.step.injEq] at hs
    subst hs
    left
    obtain ⟨n1, n2, n3⟩ := d2
    have := n3.fd h3
    exact new _ ⟨n1, n2, by omega, mV n3⟩ trivial (by simp [us]) (by simp [Cb.ms]) (by simp [Cb.cd])
  | rnd b =>
    simp only [stepH, becomes, Stp.step.injEq] at hs
    subst hs
    left
    have bv : b.isV = true := by
      cases w : b.isV with
      | true => rfl
      | false => simp [inn, w] at hi
    obtain ⟨b1, b2, b3⟩ := isV_num bv
    have d2 : Ok M V [] b := d2
    exact new _ (mV d2) (by cases b <;> first | trivial | (simp [Pc.isV] at bv; done)) (by omega) (by omega) (by simp only [Cb.cd]; omega)
  | call a f v =>
    have hf : f.isV = true ∧ v.isV = true := by
      cases q : f.isV <;> cases q' : v.isV <;> simp [inn, q, q'] at hi ⊢
    obtain ⟨hf, hv'⟩ := hf
    obtain ⟨o1, o2⟩ := d2
    cases f with
    | num n => simp [stepH, becomes] at hs
    | shut c x b =>
      simp only [stepH, becomes, Stp.step.injEq] at hs
      subst hs
      left
      obtain ⟨n1, n2, n3, n4⟩ := o1
      have q1 : Ok M (V + 33) [] (Cb.put x v b) := Ok.put (mV o2) (sc := [x]) (by simp) hv' (mV n4)
      have q2 : Cb.cd (Cb.put x v b) ≤ 10 := by rw [Ok.put.cd_put' x _ hv']; exact n2
      refine ⟨(plug_ok (fun f hf => ((d1' f hf).okR h3).frP) q1).mono (by omega) (Nat.le_refl _) fun _ y => y, plug_sp d1' (sp_of (by omega)), ?_, ?_⟩
      · have := (plug_ms (d := 10) (M0 := 10) (fs := L) (h := .call a (.shut c x b) v) (q := Cb.put x v b) (by have := us_cd (Cb.put x v b); omega) (by have := ms_cd (Cb.put x v b); omega)).2
        omega
      · have := plug_cd (d := 10) (fs := L) (h := .call a (.shut c x b) v) (q := Cb.put x v b) (by omega)
        omega
    | kept c fs =>
      simp only [stepH, becomes, Stp.step.injEq] at hs
      subst hs
      right
      obtain ⟨n1, n2, n3⟩ := o1
      obtain ⟨v1, v2, v3⟩ := isV_num hv'
      have fp := n3.frP
      have q1 : Ok M V [] (plug fs v) := plug_ok fp o2
      have q2 : Sp (plug fs v) := plug_sp fp (by cases v <;> first | trivial | (simp [Pc.isV] at hv'; done))
      have q3 := plug_len (q := v) fp
      have q4 := (plug_ms (d := 0) (M0 := M) (fs := fs) (h := .num 0) (q := v) (by simp [us, v1]) (by simp [Cb.ms, v2])).2
      refine ⟨plug_ok (fun f hf => ((d1' f hf).okR h3).frP) (mV q1), plug_sp d1' q2, ?_, ?_⟩
      · have := (plug_ms (d := 0) (M0 := M) (fs := L) (h := .call a (.kept c fs) v) (q := .rnd (plug fs v)) (by simp [us]) (by simp only [Cb.ms]; omega)).2
        omega
      · have := plug_cd (d := M + 31) (fs := L) (h := .call a (.kept c fs) v) (q := .rnd (plug fs v)) (by simp only [Cb.cd]; omega)
        omega
    | _ => simp [Pc.isV] at hf
  | plus a f v =>
    cases f with
    | num m =>
      cases v with
      | num n =>
        simp only [stepH, becomes, Stp.step.injEq] at hs
        subst hs
        left
        exact new _ trivial trivial (by simp [us]) (by simp [Cb.ms]) (by simp [Cb.cd])
      | _ => simp [stepH, becomes] at hs
    | _ => simp [stepH, becomes] at hs
  | pick a c f v =>
    cases c with
    | num n =>
      simp only [stepH, becomes, Stp.step.injEq] at hs
      subst hs
      left
      obtain ⟨o1, o2, o3⟩ := d2
      obtain ⟨s1, s2, s3⟩ := d3
      split
      · exact new _ (mV o2) (sp_of (by omega)) (by simp only [us]; omega) (by simp only [Cb.ms]; omega) (by simp only [Cb.cd]; omega)
      · exact new _ (mV o3) (sp_of (by omega)) (by simp only [us]; omega) (by simp only [Cb.ms]; omega) (by simp only [Cb.cd]; omega)
    | _ => simp [stepH, becomes] at hs
end Cb
namespace Cb
open PySem PySem.Spec PyProof.Rows L2
/-! ## the machine, plain -/
mutual
inductive Vl where
  | num (n : Int) | shut (a : Int) (x : Str) (b : Pc) (e : En) | kept (a : Int) (fs : List Mf)
inductive En where
  | nil | cons (x : Str) (v : Vl) (e : En)
inductive Mf where
  | caller (a : Int) (p : Pc) (e : En) | given (a : Int) (v : Vl) | adder (a : Int) (p : Pc) (e : En) | added (a : Int) (v : Vl) | picker (a : Int) (p q : Pc) (e : En) | rnd
end
mutual
def Vl.d : Vl → D
  | .num n => .tup [.str "num", .int n]
  | .shut a x b e => .tup [.str "shut", .int a, .str x, b.d, .tup (En.ds e)]
  | .kept a fs => .tup [.str "kept", .int a, .tup (Mf.ds fs)]
def En.ds : En → List D
  | .nil => []
  | .cons x v e => .tup [.str x, v.d] :: En.ds e
def Mf.d : Mf → D
  | .caller a p e => .tup [.str "caller", .int a, p.d, .tup (En.ds e)]
  | .given a v => .tup [.str "given", .int a, v.d]
  | .adder a p e => .tup [.str "adder", .int a, p.d, .tup (En.ds e)]
  | .added a v => .tup [.str "added", .int a, v.d]
  | .picker a p q e => .tup [.str "picker", .int a, p.d, q.d, .tup (En.ds e)]
  | .rnd => .tup [.str "round"]
def Mf.ds : List Mf → List D
  | [] => []
  | f :: fs => f.d :: Mf.ds fs
end
inductive Sm where
  | go (p : Pc) (e : En) (fs : List Mf) | have (v : Vl) (fs : List Mf)
def Sm.d : Sm → D
  | .go p e fs => .tup [.str "go", p.d, .tup e.ds, .tup (Mf.ds fs)]
  | .have v fs => .tup [.str "have", v.d, .tup (Mf.ds fs)]
def look : En → Str → Option Vl
  | .nil, _ => none
  | .cons y v e, x => if y = x then some v else look e x
def En.dom : En → List Str
  | .nil => []
  | .cons y _ e => y :: En.dom e
def rixm : List Mf → Option Nat
  | [] => none
  | .rnd :: _ => some 0
  | _ :: fs => (rixm fs).map (· + 1)
inductive Mv where
  | val (v : Vl) | stuck (a : Int) | step (s : Sm) | move (s : Sm)
def Mv.d : Mv → D
  | .val v => .tup [.str "value", v.d]
  | .stuck a => .tup [.str "stuck", .int a]
  | .step s => .tup [.str "step", s.d]
  | .move s => .tup [.str "move", s.d]
def hadM (v : Vl) : Mf → List Mf → Mv
  | .caller a p e, fs => .move (.go p e (.given a v :: fs))
  | .adder a p e, fs => .move (.go p e (.added a v :: fs))
  | .given _ (.shut _ x b e), fs => .step (.go b (.cons x v e) fs)
  | .given _ (.kept _ gs), fs => .step (.have v (gs ++ .rnd :: fs))
  | .given a (.num _), _ => .stuck a
  | .added a w, fs => match w, v with
    | .num m, .num n => .step (.have (.num (m + n)) fs)
    | _, _ => .stuck a
  | .picker a p q e, fs => match v with
    | .num n => .step (.go (if n = 0 then p else q) e fs)
    | _ => .stuck a
  | .rnd, fs => .step (.have v fs)
def mv : Sm → Mv
  | .have v [] => .val v
  | .have v (f :: fs) => hadM v f fs
  | .go (.fn a x b) e fs => .step (.have (.shut a x b e) fs)
  | .go (.take a x b) e fs => match rixm fs with
    | none => .stuck a
    | some n => .step (.go b (.cons x (.kept a (fs.take n)) e) (fs.drop n))
  | .go (.num n) _ fs => .move (.have (.num n) fs)
  | .go (.name x) e fs => .move (.have ((look e x).getD (.num 0)) fs)
  | .go (.rnd b) e fs => .move (.go b e (.rnd :: fs))
  | .go (.pick a c f g) e fs => .move (.go c e (.picker a f g e :: fs))
  | .go (.call a f g) e fs => .move (.go f e (.caller a g e :: fs))
  | .go (.plus a f g) e fs => .move (.go f e (.adder a g e :: fs))
  | .go _ _ _ => .stuck 0
/-! ### putting in at once -/
abbrev Rho := List (Str × Pc)
def rem (x : Str) (r : Rho) : Rho := r.filter fun e => decide (e.1 ≠ x)
def lk : Rho → Str → Option Pc
  | [], _ => none
  | (y, v) :: r, x => if y = x then some v else lk r x
def psub : Rho → Pc → Pc
  | r, .name x => (lk r x).getD (.name x)
  | r, .fn a x b => .fn a x (psub (rem x r) b)
  | r, .take a x b => .take a x (psub (rem x r) b)
  | r, .call a f g => .call a (psub r f) (psub r g)
  | r, .plus a f g => .plus a (psub r f) (psub r g)
  | r, .pick a c f g => .pick a (psub r c) (psub r f) (psub r g)
  | r, .rnd b => .rnd (psub r b)
  | _, .num n => .num n
  | _, .shut a x b => .shut a x b
  | _, .kept a fs => .kept a fs
mutual
def Vl.sh : Vl → Pc
  | .num n => .num n
  | .shut a x b e => .shut a x (psub (rem x (En.sh e)) b)
  | .kept a fs => .kept a (Mf.shs fs)
def En.sh : En → Rho
  | .nil => []
  | .cons x v e => (x, v.sh) :: En.sh e
def Mf.sh : Mf → Fr
  | .caller a p e => .caller a (psub (En.sh e) p)
  | .given a v => .given a v.sh
  | .adder a p e => .adder a (psub (En.sh e) p)
  | .added a v => .added a v.sh
  | .picker a p q e => .picker a (psub (En.sh e) p) (psub (En.sh e) q)
  | .rnd => .rnd
def Mf.shs : List Mf → List Fr
  | [] => []
  | f :: fs => f.sh :: Mf.shs fs
end
/-- the running piece for which a state stands -/
def ul : Sm → Pc
  | .go p e fs => plug (Mf.shs fs) (psub e.sh p)
  | .have v fs => plug (Mf.shs fs) v.sh
theorem sh_isV (v : Vl) : v.sh.isV = true := by cases v <;> simp [Vl.sh, Pc.isV]
theorem lk_rem (x y : Str) : ∀ r : Rho, lk (rem x r) y = if y = x then none else lk r y
  | [] => by simp [rem, lk]
  | (z, v) :: r => by
    have ih := lk_rem x y r
    unfold rem at ih ⊢
    by_cases h : z = x
    · rw [List.filter_cons_of_neg (by simp [h])]
      rw [ih]
      subst h
      by_cases h2 : y = z
      · simp [h2]
      · have h3 : ¬ z = y := fun e => h2 e.symm
        simp [lk, h2, h3]
    · rw [List.filter_cons_of_pos (by simp [h])]
      by_cases h2 : z = y
      · subst h2
        simp [lk, h]
      · simp only [lk, h2, if_false]
        exact ih
theorem psub_ext : ∀ (p : Pc) (r r' : Rho), (∀ y, lk r y = lk r' y) → psub r p = psub r' p
  | .name x, r, r', h => by simp [psub, h x]
  | .fn a x b, r, r', h => by simp only [psub]; rw [psub_ext b (rem x r) (rem x r') fun y => by rw [lk_rem, lk_rem, h y]]
  | .take a x b, r, r', h => by simp only [psub]; rw [psub_ext b (rem x r) (rem x r') fun y => by rw [lk_rem, lk_rem, h y]]
  | .call a f g, r, r', h => by simp only [psub]; rw [psub_ext f r r' h, psub_ext g r r' h]
  | .plus a f g, r, r', h => by simp only [psub]; rw [psub_ext f r r' h, psub_ext g r r' h]
  | .pick a c f g, r, r', h => by simp only [psub]; rw [psub_ext c r r' h, psub_ext f r r' h, psub_ext g r r' h]
  | .rnd b, r, r', h => by simp only [psub]; rw [psub_ext b r r' h]
  | .num _, _, _, _ => rfl
  | .shut .., _, _, _ => rfl
  | .kept .., _, _, _ => rfl
/-- one more put in behind: as if it had stood in front -/
theorem put_psub (x : Str) (v : Pc) : ∀ (p : Pc) (r : Rho), (∀ y w, lk r y = some w → w.isV = true) → lk r x = none → put x v (psub r p) = psub ((x, v) :: r) p
  | .name y, r, hv, hx => by
    simp only [psub, lk]
    by_cases h : x = y
    · subst h; simp [hx, put]
    · have h' : ¬ y = x := fun e => h e.symm
      cases hl : lk r y with
      | none => simp [h, h', put]
      | some w =>
        have := hv y w hl
        simp only [h, if_false, Option.getD_some]
        cases w <;> simp [Pc.isV] at this <;> rfl
  | .fn a y b, r, hv, hx => by
    simp only [psub, put]
    by_cases h : y = x
    · subst h
      simp only [if_true]
      rw [psub_ext b (rem y ((y, v) :: r)) (rem y r) fun z => by
        rw [lk_rem, lk_rem]
        by_cases q : z = y
        · simp [q]
        · have q' : ¬ y = z := fun e => q e.symm
          simp [lk, q, q']]
    · rw [if_neg h]
      have := put_psub x v b (rem y r) (fun z w hz => by
        rw [lk_rem] at hz
        split at hz
        · cases hz
        · exact hv z w hz) (by rw [lk_rem, hx]; simp)
      rw [this, psub_ext b (rem y ((x, v) :: r)) ((x, v) :: rem y r) fun z => by
        rw [lk_rem]
        have hyx : ¬ x = y := fun e => h e.symm
        simp only [lk]
        rw [lk_rem]
        by_cases q : z = y
        · subst q
          simp [hyx]
        · simp [q]]
  | .take a y b, r, hv, hx => by
    simp only [psub, put]
    by_cases h : y = x
    · subst h
      simp only [if_true]
      rw [psub_ext b (rem y ((y, v) :: r)) (rem y r) fun z => by
        rw [lk_rem, lk_rem]
        by_cases q : z = y
        · simp [q]
        · have q' : ¬ y = z := fun e => q e.symm
          simp [lk, q, q']]
    · rw [if_neg h]
      have := put_psub x v b (rem y r) (fun z w hz => by
        rw [lk_rem] at hz
        split at hz
        · cases hz
        · exact hv z w hz) (by rw [lk_rem, hx]; simp)
      rw [this, psub_ext b (rem y ((x, v) :: r)) ((x, v) :: rem y r) fun z => by
        rw [lk_rem]
        have hyx : ¬ x = y := fun e => h e.symm
        simp only [lk]
        rw [lk_rem]
        by_cases q : z = y
        · subst q
          simp [hyx]
        · simp [q]]
  | .call a f g, r, hv, hx => by simp only [psub, put, put_psub x v f r hv hx, put_psub x v g r hv hx]
  | .plus a f g, r, hv, hx => by simp only [psub, put, put_psub x v f r hv hx, put_psub x v g r hv hx]
  | .pick a c f g, r, hv, hx => by simp only [psub, put, put_psub x v c r hv hx, put_psub x v f r hv hx, put_psub x v g r hv hx]
  | .rnd b, r, hv, hx => by simp only [psub, put, put_psub x v b r hv hx]
  | .num _, _, _, _ => rfl
  | .shut .., _, _, _ => rfl
  | .kept .., _, _, _ => rfl
end Cb
namespace Cb
open PySem PySem.Spec PyProof.Rows L2
/-! ## the machine goes along with the steps -/
/-- what is said of code, with the names about it: it goes on to the parts -/
structure QC (Q : List Str → Pc → Prop) : Prop where
  name : ∀ {sc x}, Q sc (.name x) → x ∈ sc
  fn : ∀ {sc a x b}, Q sc (.fn a x b) → nmOk x ∧ Q (x :: sc) b
  take : ∀ {sc a x b}, Q sc (.take a x b) → nmOk x ∧ Q (x :: sc) b
  rnd : ∀ {sc b}, Q sc (.rnd b) → Q sc b
  call : ∀ {sc a f g}, Q sc (.call a f g) → Q sc f ∧ Q sc g
  plus : ∀ {sc a f g}, Q sc (.plus a f g) → Q sc f ∧ Q sc g
  pick : ∀ {sc a c f g}, Q sc (.pick a c f g) → Q sc c ∧ Q sc f ∧ Q sc g
  shut : ∀ {sc a x b}, ¬ Q sc (.shut a x b)
  kept : ∀ {sc a fs}, ¬ Q sc (.kept a fs)
section
variable (Q : List Str → Pc → Prop)
mutual
def Vl.ok : Vl → Prop
  | .num _ => True
  | .shut _ x b e => (nmOk x ∧ Q (x :: e.dom) b) ∧ En.ok e
  | .kept _ fs => Mf.oks fs
def En.ok : En → Prop
  | .nil => True
  | .cons x v e => (nmOk x ∧ Vl.ok v) ∧ En.ok e
def Mf.ok : Mf → Prop
  | .caller _ p e => Q e.dom p ∧ En.ok e
  | .given _ v => Vl.ok v
  | .adder _ p e => Q e.dom p ∧ En.ok e
  | .added _ v => Vl.ok v
  | .picker _ p q e => (Q e.dom p ∧ Q e.dom q) ∧ En.ok e
  | .rnd => True
def Mf.oks : List Mf → Prop
  | [] => True
  | f :: fs => Mf.ok f ∧ Mf.oks fs
end
def Sm.ok : Sm → Prop
  | .go p e fs => Q e.dom p ∧ e.ok Q ∧ Mf.oks Q fs
  | .have v fs => v.ok Q ∧ Mf.oks Q fs
end
variable {Q : List Str → Pc → Prop}
theorem oks_app : ∀ (fs gs : List Mf), Mf.oks Q (fs ++ gs) ↔ Mf.oks Q fs ∧ Mf.oks Q gs
  | [], gs => by simp [Mf.oks]
  | f :: fs, gs => by simp [Mf.oks, oks_app fs gs, and_assoc]
theorem oks_take : ∀ (n : Nat) (fs : List Mf), Mf.oks Q fs → Mf.oks Q (fs.take n)
  | 0, _, _ => by simp [Mf.oks]
  | _ + 1, [], _ => by simp [Mf.oks]
  | n + 1, f :: fs, h => ⟨h.1, oks_take n fs h.2⟩
theorem oks_drop : ∀ (n : Nat) (fs : List Mf), Mf.oks Q fs → Mf.oks Q (fs.drop n)
  | 0, _, h => h
  | _ + 1, [], _ => by simp [Mf.oks]
  | n + 1, f :: fs, h => oks_drop n fs h.2
theorem shs_app : ∀ (fs gs : List Mf), Mf.shs (fs ++ gs) = Mf.shs fs ++ Mf.shs gs
  | [], _ => rfl
  | f :: fs, gs => by simp [Mf.shs, shs_app fs gs]
theorem shs_take : ∀ (n : Nat) (fs : List Mf), Mf.shs (fs.take n) = (Mf.shs fs).take n
  | 0, _ => by simp [Mf.shs]
  | _ + 1, [] => by simp [Mf.shs]
  | n + 1, f :: fs => by simp [Mf.shs, shs_take n fs]
theorem shs_drop : ∀ (n : Nat) (fs : List Mf), Mf.shs (fs.drop n) = (Mf.shs fs).drop n
  | 0, _ => by simp
  | _ + 1, [] => by simp [Mf.shs]
  | n + 1, f :: fs => by simp [Mf.shs, shs_drop n fs]
theorem rixm_sh : ∀ fs : List Mf, rix (Mf.shs fs) = rixm fs
  | [] => rfl
  | f :: fs => by cases f <;> simp [Mf.shs, Mf.sh, rix, rixm, rixm_sh fs]
theorem lk_sh (x : Str) : ∀ e : En, lk e.sh x = (look e x).map Vl.sh
  | .nil => rfl
  | .cons y v e => by
    simp only [En.sh, lk, look, lk_sh x e]
    split <;> rfl
theorem look_dom {x : Str} : ∀ {e : En}, e.ok Q → x ∈ e.dom → ∃ v, look e x = some v ∧ v.ok Q
  | .nil, _, h => by simp [En.dom] at h
  | .cons y v e, ho, h => by
    simp only [look]
    by_cases q : y = x
    · exact ⟨v, by simp [q], ho.1.2⟩
    · rw [if_neg q]
      rcases List.mem_cons.mp h with z | z
      · exact absurd z.symm q
      · exact look_dom ho.2 z
theorem sh_vals (e : En) : ∀ y w, lk e.sh y = some w → w.isV = true := by
  intro y w h
  rw [lk_sh] at h
  obtain ⟨v, _, rfl⟩ := Option.map_eq_some_iff.mp h
  exact sh_isV v
/-- a frame as stepping goes down by it -/
def prop : Fr → Prop
  | .given _ v => v.isV = true
  | .added _ v => v.isV = true
  | _ => True
theorem prop_sh (f : Mf) : prop f.sh := by cases f <;> simp [Mf.sh, prop, sh_isV]
theorem prop_shs : ∀ fs : List Mf, ∀ f ∈ Mf.shs fs, prop f
  | [], f, h => by simp [Mf.shs] at h
  | g :: fs, f, h => by
    rcases List.mem_cons.mp h with q | q
    · rw [q]; exact prop_sh g
    · exact prop_shs fs f q
theorem w_frs {f : Fr} {q : Pc} (h : prop f) (hq : q.isV = false) : frs (f.w q) = f :: frs q ∧ hd (f.w q) = hd q ∧ (f.w q).isV = false := by
  cases f <;> simp_all [Fr.w, frs, hd, prop, Pc.isV]
theorem plug_down : ∀ (F : List Fr) (q : Pc), (∀ f ∈ F, prop f) → q.isV = false → frs (plug F q) = F.reverse ++ frs q ∧ hd (plug F q) = hd q ∧ (plug F q).isV = false
  | [], q, _, hq => by simp [plug, hq]
  | f :: F, q, h, hq => by
    obtain ⟨a, b, c⟩ := w_frs (h f List.mem_cons_self) hq
    obtain ⟨a', b', c'⟩ := plug_down F (f.w q) (fun g hg => h g (List.mem_cons_of_mem _ hg)) c
    simp only [plug]
    rw [a', b', a, b]
    simp [c']
theorem step_plug {F : List Fr} {q : Pc} (h : ∀ f ∈ F, prop f) (hq : q.isV = false) (hi : inn q = none) : step (plug F q) = stepH F q := by
  obtain ⟨a, b, c⟩ := plug_down F q h hq
  unfold step
  rw [c, a, b, (inn_none hi).1, (inn_none hi).2]
  simp
def mvOk (Q : List Str → Pc → Prop) (s : Sm) : Mv → Prop
  | .move s' => ul s' = ul s ∧ s'.ok Q
  | .step s' => step (ul s) = .step (ul s') ∧ s'.ok Q
  | .stuck a => step (ul s) = .stuck a
  | .val v => ul s = v.sh
theorem isV_n {n : Int} : (Pc.num n).isV = true := rfl
theorem isV_s {a : Int} {x : Str} {b : Pc} : (Pc.shut a x b).isV = true := rfl
theorem isV_k {a : Int} {fs : List Fr} : (Pc.kept a fs).isV = true := rfl
theorem sim_have (v : Vl) (f : Mf) (fs : List Mf) (hv : v.ok Q) (hf : f.ok Q) (hs : Mf.oks Q fs) : mvOk Q (.have v (f :: fs)) (hadM v f fs) := by
  have pr := prop_shs fs
  have vv := sh_isV v
  cases f with
  | caller a p e => exact ⟨rfl, hf.1, hf.2, hv, hs⟩
  | adder a p e => exact ⟨rfl, hf.1, hf.2, hv, hs⟩
  | rnd =>
    refine ⟨?_, hv, hs⟩
    simp only [ul, Mf.shs, Mf.sh, plug, Fr.w]
    rw [step_plug pr rfl (by simp [inn, vv])]
    rfl
  | given a w =>
    cases w with
    | num n =>
      simp only [hadM, mvOk, ul, Mf.shs, Mf.sh, plug, Fr.w, Vl.sh]
      rw [step_plug pr rfl (by simp [inn, vv, isV_n, isV_s, isV_k])]
      rfl
    | shut c x b e =>
      refine ⟨?_, hf.1.2, ⟨⟨hf.1.1, hv⟩, hf.2⟩, hs⟩
      simp only [ul, Mf.shs, Mf.sh, plug, Fr.w, Vl.sh]
      rw [step_plug pr rfl (by simp [inn, vv, isV_n, isV_s, isV_k])]
      simp only [stepH, becomes, En.sh]
      have hr : lk (rem x e.sh) x = none := by rw [lk_rem]; simp
      rw [put_psub x v.sh b (rem x e.sh) (fun y w hy => by
        rw [lk_rem] at hy
        split at hy
        · cases hy
        · exact sh_vals e y w hy) hr]
      rw [psub_ext b ((x, v.sh) :: rem x e.sh) ((x, v.sh) :: e.sh) fun y => by
        simp only [lk]
        rw [lk_rem]
        by_cases q : x = y
        · simp [q]
        · have q' : ¬ y = x := fun e => q e.symm
          simp [q, q']]
    | kept c gs =>
      refine ⟨?_, hv, (oks_app _ _).mpr ⟨hf, trivial, hs⟩⟩
      simp only [ul, Mf.shs, Mf.sh, plug, Fr.w, Vl.sh]
      rw [step_plug pr rfl (by simp [inn, vv, isV_n, isV_s, isV_k])]
      simp only [stepH, becomes]
      rw [shs_app, plug_app]
      rfl
  | added a w =>
    have wv := sh_isV w
    cases w with
    | num m =>
      cases v with
      | num n =>
        refine ⟨?_, trivial, hs⟩
        simp only [ul, Mf.shs, Mf.sh, plug, Fr.w, Vl.sh]
        rw [step_plug pr rfl (by simp [inn, Pc.isV])]
        rfl
      | _ =>
        simp only [hadM, mvOk, ul, Mf.shs, Mf.sh, plug, Fr.w, Vl.sh]
        rw [step_plug pr rfl (by simp [inn, Pc.isV])]
        rfl
    | _ =>
      simp only [hadM, mvOk, ul, Mf.shs, Mf.sh, plug, Fr.w, Vl.sh]
      rw [step_plug pr rfl (by simp [inn, vv, isV_n, isV_s, isV_k])]
      rfl
  | picker a p q e =>
    cases v with
    | num n =>
      refine ⟨?_, ?_, hf.2, hs⟩
      · simp only [ul, Mf.shs, Mf.sh, plug, Fr.w, Vl.sh]
        rw [step_plug pr rfl (by simp [inn, Pc.isV])]
        simp only [stepH, becomes]
        by_cases z : n = 0 <;> simp [z]
      · by_cases z : n = 0
        · simp only [z, if_true]; exact hf.1.1
        · simp only [z, if_false]; exact hf.1.2
    | _ =>
      simp only [hadM, mvOk, ul, Mf.shs, Mf.sh, plug, Fr.w, Vl.sh]
      rw [step_plug pr rfl (by simp [inn, Pc.isV])]
      rfl
theorem sim (hQ : QC Q) (s : Sm) (h : s.ok Q) : mvOk Q s (mv s) := by
  cases s with
  | «have» v fs =>
    cases fs with
    | nil => exact rfl
    | cons f fs => exact sim_have v f fs h.1 h.2.1 h.2.2
  | go p e fs =>
    obtain ⟨hc, he, hs⟩ := h
    have pr := prop_shs fs
    cases p with
    | num n => exact ⟨rfl, trivial, hs⟩
    | name x =>
      obtain ⟨v, h1, h2⟩ := look_dom he (hQ.name hc)
      refine ⟨?_, ?_, hs⟩
      · simp only [ul, psub, lk_sh, h1]; rfl
      · rw [h1]; exact h2
    | rnd b => exact ⟨rfl, hQ.rnd hc, he, trivial, hs⟩
    | pick a c f g => have q := hQ.pick hc; exact ⟨rfl, q.1, he, ⟨⟨q.2.1, q.2.2⟩, he⟩, hs⟩
    | call a f g => have q := hQ.call hc; exact ⟨rfl, q.1, he, ⟨q.2, he⟩, hs⟩
    | plus a f g => have q := hQ.plus hc; exact ⟨rfl, q.1, he, ⟨q.2, he⟩, hs⟩
    | fn a x b =>
      refine ⟨?_, ⟨hQ.fn hc, he⟩, hs⟩
      simp only [ul, psub, Vl.sh]
      rw [step_plug pr rfl (by simp [inn])]
      rfl
    | take a x b =>
      simp only [mv]
      have hst : step (ul (.go (.take a x b) e fs)) = stepH (Mf.shs fs) (.take a x (psub (rem x e.sh) b)) := by
        simp only [ul, psub]
        rw [step_plug pr rfl (by simp [inn])]
      cases hr : rixm fs with
      | none =>
        show step _ = _
        rw [hst]
        simp only [stepH, rixm_sh, hr]
      | some n =>
        refine ⟨?_, (hQ.take hc).2, ⟨⟨(hQ.take hc).1, oks_take n fs hs⟩, he⟩, oks_drop n fs hs⟩
        rw [hst]
        simp only [stepH, rixm_sh, hr, ul, En.sh, shs_drop, Vl.sh, shs_take]
        have hr : lk (rem x e.sh) x = none := by rw [lk_rem]; simp
        rw [put_psub x _ b (rem x e.sh) (fun y w hy => by
          rw [lk_rem] at hy
          split at hy
          · cases hy
          · exact sh_vals e y w hy) hr]
        rw [psub_ext b ((x, Pc.kept a ((Mf.shs fs).take n)) :: rem x e.sh) ((x, Pc.kept a ((Mf.shs fs).take n)) :: e.sh) fun y => by
          simp only [lk]
          rw [lk_rem]
          by_cases q : x = y
          · simp [q]
          · have q' : ¬ y = x := fun e => q e.symm
            simp [q, q']]
    | shut a x b => exact (hQ.shut hc).elim
    | kept a fs => exact (hQ.kept hc).elim
end Cb
namespace Cb
open PySem PySem.Spec PyProof.Rows L2
/-! ## how many moves stand between two steps -/
def leaf : Pc → Bool
  | .num _ => true
  | .name _ => true
  | _ => false
def rm : Pc → Nat
  | .num _ => 1
  | .name _ => 1
  | .rnd b => 1 + rm b
  | .pick _ c _ _ => 1 + rm c
  | .call _ f g => 1 + (if leaf f = true then 2 + rm g else rm f)
  | .plus _ f g => 1 + (if leaf f = true then 2 + rm g else rm f)
  | _ => 0
def ht : List Mf → Nat
  | .caller _ p _ :: _ => 1 + rm p
  | .adder _ p _ :: _ => 1 + rm p
  | _ => 0
def mu : Sm → Nat
  | .go p _ fs => if leaf p = true then 1 + ht fs else rm p
  | .have _ fs => ht fs
theorem rm_leaf {p : Pc} (h : leaf p = true) : rm p = 1 := by cases p <;> simp_all [leaf, rm]
theorem rm_cd : ∀ p : Pc, rm p ≤ 3 * cd p
  | .num _ => by simp [rm, cd]
  | .name _ => by simp [rm, cd]
  | .rnd b => by have := rm_cd b; simp only [rm, cd]; omega
  | .pick _ c f g => by have := rm_cd c; simp only [rm, cd]; omega
  | .call _ f g => by have := rm_cd f; have := rm_cd g; simp only [rm, cd]; split <;> omega
  | .plus _ f g => by have := rm_cd f; have := rm_cd g; simp only [rm, cd]; split <;> omega
  | .fn .. => by simp [rm]
  | .take .. => by simp [rm]
  | .shut .. => by simp [rm]
  | .kept .. => by simp [rm]
theorem move_mu {s s' : Sm} (h : mv s = .move s') : mu s' < mu s := by
  cases s with
  | «have» v fs =>
    cases fs with
    | nil => cases h
    | cons f fs =>
      cases f with
      | caller a p e =>
        cases h
        simp only [mu, ht]
        split
        · rename_i q; rw [rm_leaf q]; omega
        · omega
      | adder a p e =>
        cases h
        simp only [mu, ht]
        split
        · rename_i q; rw [rm_leaf q]; omega
        · omega
      | given a w => cases w <;> cases h
      | added a w => cases w <;> cases v <;> cases h
      | picker a p q e => cases v <;> cases h
      | rnd => cases h
  | go p e fs =>
    cases p with
    | num n => cases h; simp [mu, leaf]
    | name x => cases h; simp [mu, leaf]
    | rnd b =>
      cases h
      show (if leaf b = true then 1 + 0 else rm b) < 1 + rm b
      split
      · rename_i q; rw [rm_leaf q]; omega
      · omega
    | pick a c f g =>
      cases h
      show (if leaf c = true then 1 + 0 else rm c) < 1 + rm c
      split
      · rename_i q; rw [rm_leaf q]; omega
      · omega
    | call a f g =>
      cases h
      show (if leaf f = true then 1 + (1 + rm g) else rm f) < 1 + (if leaf f = true then 2 + rm g else rm f)
      split <;> omega
    | plus a f g =>
      cases h
      show (if leaf f = true then 1 + (1 + rm g) else rm f) < 1 + (if leaf f = true then 2 + rm g else rm f)
      split <;> omega
    | fn a x b => cases h
    | take a x b => simp only [mv] at h; split at h <;> cases h
    | shut a x b => cases h
    | kept a fs => cases h
end Cb
namespace Cb
open PySem PySem.Spec PyProof.Rows L2
/-! ## how deep values stand in values -/
mutual
def Vl.sd : Vl → Nat
  | .num _ => 1
  | .shut _ _ _ e => 2 + En.sd e
  | .kept _ fs => 2 + Mf.sds fs
def En.sd : En → Nat
  | .nil => 0
  | .cons _ v e => max (Vl.sd v) (En.sd e)
def Mf.sd : Mf → Nat
  | .caller _ _ e => 2 + En.sd e
  | .given _ v => 1 + Vl.sd v
  | .adder _ _ e => 2 + En.sd e
  | .added _ v => 1 + Vl.sd v
  | .picker _ _ _ e => 2 + En.sd e
  | .rnd => 1
def Mf.sds : List Mf → Nat
  | [] => 0
  | f :: fs => max (Mf.sd f) (Mf.sds fs)
end
def Mf.bd (n : Nat) : Mf → Prop
  | .caller _ _ e => En.sd e ≤ 5 * n
  | .given _ v => Vl.sd v ≤ 5 * n + 2
  | .adder _ _ e => En.sd e ≤ 5 * n
  | .added _ v => Vl.sd v ≤ 5 * n + 2
  | .picker _ _ _ e => En.sd e ≤ 5 * n
  | .rnd => True
def Mf.bds (n : Nat) (fs : List Mf) : Prop := ∀ f ∈ fs, f.bd n
def Sm.bd (n : Nat) : Sm → Prop
  | .go _ e fs => En.sd e ≤ 5 * n ∧ Mf.bds n fs
  | .have v fs => Vl.sd v ≤ 5 * n + 2 ∧ Mf.bds n fs
theorem Mf.bd_mono {n m : Nat} (h : n ≤ m) {f : Mf} (b : f.bd n) : f.bd m := by cases f <;> simp only [Mf.bd] at b ⊢ <;> omega
theorem Mf.bds_mono {n m : Nat} (h : n ≤ m) {fs : List Mf} (b : Mf.bds n fs) : Mf.bds m fs := fun f hf => Mf.bd_mono h (b f hf)
theorem Mf.bds_sds {n : Nat} : ∀ {fs : List Mf}, Mf.bds n fs → Mf.sds fs ≤ 5 * n + 3
  | [], _ => by simp [Mf.sds]
  | f :: fs, b => by
    have i := Mf.bds_sds (fs := fs) fun g hg => b g (List.mem_cons_of_mem _ hg)
    have j := b f List.mem_cons_self
    simp only [Mf.sds]
    cases f <;> simp only [Mf.sd, Mf.bd] at j ⊢ <;> omega
theorem Mf.sds_bds {n : Nat} : ∀ {fs : List Mf}, Mf.sds fs ≤ 5 * n → Mf.bds n fs
  | [], _, f, hf => by simp at hf
  | g :: fs, h, f, hf => by
    simp only [Mf.sds] at h
    rcases List.mem_cons.mp hf with q | q
    · subst q
      cases f <;> simp only [Mf.sd, Mf.bd] at h ⊢ <;> omega
    · exact Mf.sds_bds (fs := fs) (by omega) f q
theorem bds_cons {n : Nat} {f : Mf} {fs : List Mf} (h : f.bd n) (hs : Mf.bds n fs) : Mf.bds n (f :: fs) := fun g hg => by
  rcases List.mem_cons.mp hg with q | q
  · rw [q]; exact h
  · exact hs g q
theorem look_sd {x : Str} : ∀ {e : En} {v : Vl}, look e x = some v → v.sd ≤ e.sd
  | .nil, _, h => by simp [look] at h
  | .cons y w e, v, h => by
    simp only [look] at h
    simp only [En.sd]
    split at h
    · cases h; omega
    · have := look_sd h; omega
theorem getD_sd (x : Str) (e : En) (n : Nat) (h : e.sd ≤ 5 * n) : ((look e x).getD (.num 0)).sd ≤ 5 * n + 2 := by
  cases hl : look e x with
  | none => simp [Vl.sd]
  | some v => have := look_sd hl; simp; omega
/-- moves keep the bound, steps raise it -/
theorem mv_bd {n : Nat} {s : Sm} (h : s.bd n) : (∀ s', mv s = .move s' → s'.bd n) ∧ ∀ s', mv s = .step s' → s'.bd (n + 1) := by
  have up : ∀ {fs : List Mf}, Mf.bds n fs → Mf.bds (n + 1) fs := fun b => Mf.bds_mono (by omega) b
  cases s with
  | «have» v fs =>
    cases fs with
    | nil => exact ⟨fun s' q => (by cases q), fun s' q => (by cases q)⟩
    | cons f fs =>
      obtain ⟨h1, h2⟩ := h
      have hf := h2 f List.mem_cons_self
      have hs : Mf.bds n fs := fun g hg => h2 g (List.mem_cons_of_mem _ hg)
      cases f with
      | caller a p e => exact ⟨fun s' q => (by cases q; exact ⟨hf, bds_cons h1 hs⟩), fun s' q => (by cases q)⟩
      | adder a p e => exact ⟨fun s' q => (by cases q; exact ⟨hf, bds_cons h1 hs⟩), fun s' q => (by cases q)⟩
      | rnd => exact ⟨fun s' q => (by cases q), fun s' q => (by cases q; exact ⟨by omega, up hs⟩)⟩
      | given a w =>
        cases w with
        | num n => exact ⟨fun s' q => (by cases q), fun s' q => (by cases q)⟩
        | shut c x b e =>
          refine ⟨fun s' q => (by cases q), fun s' q => ?_⟩
          cases q
          simp only [Mf.bd, Vl.sd] at hf
          refine ⟨?_, up hs⟩
          simp only [En.sd]
          omega
        | kept c gs =>
          refine ⟨fun s' q => (by cases q), fun s' q => ?_⟩
          cases q
          simp only [Mf.bd, Vl.sd] at hf
          refine ⟨by omega, fun g hg => ?_⟩
          rcases List.mem_append.mp hg with z | z
          · exact Mf.bd_mono (by omega) (Mf.sds_bds (n := n) (fs := gs) (by omega) g z)
          · rcases List.mem_cons.mp z with z | z
            · subst z; trivial
            · exact up hs g z
      | added a w =>
        refine ⟨fun s' q => ?_, fun s' q => ?_⟩
        · cases w <;> cases v <;> cases q
        · cases w <;> cases v <;> cases q
          exact ⟨by simp [Vl.sd], up hs⟩
      | picker a p r e =>
        refine ⟨fun s' q => ?_, fun s' q => ?_⟩
        · cases v <;> cases q
        · cases v <;> cases q
          simp only [Mf.bd] at hf
          exact ⟨by omega, up hs⟩
  | go p e fs =>
    obtain ⟨he, hs⟩ := h
    cases p with
    | num m => exact ⟨fun s' q => (by cases q; exact ⟨by simp [Vl.sd], hs⟩), fun s' q => (by cases q)⟩
    | name x => exact ⟨fun s' q => (by cases q; exact ⟨getD_sd x e n he, hs⟩), fun s' q => (by cases q)⟩
    | rnd b => exact ⟨fun s' q => (by cases q; exact ⟨he, bds_cons trivial hs⟩), fun s' q => (by cases q)⟩
    | pick a c f g => exact ⟨fun s' q => (by cases q; exact ⟨he, bds_cons he hs⟩), fun s' q => (by cases q)⟩
    | call a f g => exact ⟨fun s' q => (by cases q; exact ⟨he, bds_cons he hs⟩), fun s' q => (by cases q)⟩
    | plus a f g => exact ⟨fun s' q => (by cases q; exact ⟨he, bds_cons he hs⟩), fun s' q => (by cases q)⟩
    | fn a x b => exact ⟨fun s' q => (by cases q), fun s' q => (by cases q; exact ⟨by simp only [Vl.sd]; omega, up hs⟩)⟩
    | take a x b =>
      simp only [mv]
      cases hr : rixm fs with
      | none => exact ⟨fun s' q => (by cases q), fun s' q => (by cases q)⟩
      | some m =>
        refine ⟨fun s' q => (by cases q), fun s' q => ?_⟩
        cases q
        have : Mf.sds (fs.take m) ≤ 5 * n + 3 := Mf.bds_sds fun f hf => hs f (List.mem_of_mem_take hf)
        refine ⟨?_, fun f hf => up hs f (List.mem_of_mem_drop hf)⟩
        simp only [En.sd, Vl.sd]
        omega
    | shut a x b => exact ⟨fun s' q => (by cases q), fun s' q => (by cases q)⟩
    | kept a fs => exact ⟨fun s' q => (by cases q), fun s' q => (by cases q)⟩
/-! ## putting all in, one behind the other -/
def fr (y : Str) : Pc → Prop
  | .name x => y = x
  | .fn _ x b => y ≠ x ∧ fr y b
  | .take _ x b => y ≠ x ∧ fr y b
  | .rnd b => fr y b
  | .call _ f g => fr y f ∨ fr y g
  | .plus _ f g => fr y f ∨ fr y g
  | .pick _ c f g => fr y c ∨ fr y f ∨ fr y g
  | _ => False
theorem psub_fr : ∀ (p : Pc) (r r' : Rho), (∀ y, fr y p → lk r y = lk r' y) → psub r p = psub r' p
  | .name x, r, r', h => by simp [psub, h x rfl]
  | .fn a x b, r, r', h => by
    simp only [psub]
    rw [psub_fr b (rem x r) (rem x r') fun y hy => by
      rw [lk_rem, lk_rem]
      by_cases q : y = x
      · simp [q]
      · simp [q, h y ⟨q, hy⟩]]
  | .take a x b, r, r', h => by
    simp only [psub]
    rw [psub_fr b (rem x r) (rem x r') fun y hy => by
      rw [lk_rem, lk_rem]
      by_cases q : y = x
      · simp [q]
      · simp [q, h y ⟨q, hy⟩]]
  | .call a f g, r, r', h => by simp only [psub]; rw [psub_fr f r r' fun y hy => h y (.inl hy), psub_fr g r r' fun y hy => h y (.inr hy)]
  | .plus a f g, r, r', h => by simp only [psub]; rw [psub_fr f r r' fun y hy => h y (.inl hy), psub_fr g r r' fun y hy => h y (.inr hy)]
  | .pick a c f g, r, r', h => by simp only [psub]; rw [psub_fr c r r' fun y hy => h y (.inl hy), psub_fr f r r' fun y hy => h y (.inr (.inl hy)), psub_fr g r r' fun y hy => h y (.inr (.inr hy))]
  | .rnd b, r, r', h => by simp only [psub]; rw [psub_fr b r r' h]
  | .num _, _, _, _ => rfl
  | .shut .., _, _, _ => rfl
  | .kept .., _, _, _ => rfl
theorem psub_nil : ∀ p : Pc, psub [] p = p
  | .name x => by simp [psub, lk]
  | .fn a x b => by simp [psub, rem, psub_nil b]
  | .take a x b => by simp [psub, rem, psub_nil b]
  | .call a f g => by simp [psub, psub_nil f, psub_nil g]
  | .plus a f g => by simp [psub, psub_nil f, psub_nil g]
  | .pick a c f g => by simp [psub, psub_nil c, psub_nil f, psub_nil g]
  | .rnd b => by simp [psub, psub_nil b]
  | .num _ => rfl
  | .shut .. => rfl
  | .kept .. => rfl
theorem psub_cd : ∀ (p : Pc) (r : Rho), (∀ y w, lk r y = some w → w.isV = true) → cd (psub r p) = cd p
  | .name x, r, h => by
    simp only [psub]
    cases q : lk r x with
    | none => rfl
    | some w => have := isV_num (h x w q); simp [this.2.2, cd]
  | .fn a x b, r, h => by
    simp only [psub, cd]
    rw [psub_cd b _ fun y w hy => by
      rw [lk_rem] at hy
      split at hy
      · cases hy
      · exact h y w hy]
  | .take a x b, r, h => by
    simp only [psub, cd]
    rw [psub_cd b _ fun y w hy => by
      rw [lk_rem] at hy
      split at hy
      · cases hy
      · exact h y w hy]
  | .call a f g, r, h => by simp only [psub, cd]; rw [psub_cd f r h, psub_cd g r h]
  | .plus a f g, r, h => by simp only [psub, cd]; rw [psub_cd f r h, psub_cd g r h]
  | .pick a c f g, r, h => by simp only [psub, cd]; rw [psub_cd c r h, psub_cd f r h, psub_cd g r h]
  | .rnd b, r, h => by simp only [psub, cd]; rw [psub_cd b r h]
  | .num _, _, _ => rfl
  | .shut .., _, _ => rfl
  | .kept .., _, _ => rfl
/-- the names ns of r, one behind the other -/
def picks (r : Rho) : List Str → Rho
  | [] => []
  | x :: ns => (match lk r x with | some v => [(x, v)] | none => []) ++ picks r ns
theorem lk_app : ∀ (r s : Rho) (y : Str), lk (r ++ s) y = (lk r y).or (lk s y)
  | [], s, y => by simp [lk]
  | (x, v) :: r, s, y => by
    simp only [List.cons_append, lk]
    split
    · rfl
    · exact lk_app r s y
theorem lk_picks (r : Rho) (y : Str) : ∀ ns : List Str, lk (picks r ns) y = if y ∈ ns then lk r y else none
  | [] => by simp [picks, lk]
  | x :: ns => by
    simp only [picks]
    rw [lk_app, lk_picks r y ns]
    by_cases h : y = x
    · subst h
      cases q : lk r y with
      | none => simp [lk]
      | some v => simp [lk]
    · have h' : ¬ x = y := fun e => h e.symm
      cases q : lk r x with
      | none => simp [lk, h]
      | some v => simp [lk, h, h']
/-! ## what states follow -/
def run : Nat → Nat → Sm → List Sm
  | 0, _, _ => []
  | t + 1, n, s => match mv s with
    | .move s' => s' :: run t n s'
    | .step s' => match n with
      | 0 => []
      | n + 1 => s' :: run t n s'
    | _ => []
/-- the state at which it ends -/
def rlast : Nat → Nat → Sm → Sm
  | 0, _, s => s
  | t + 1, n, s => match mv s with
    | .move s' => rlast t n s'
    | .step s' => match n with
      | 0 => s
      | n + 1 => rlast t n s'
    | _ => s
end Cb
namespace Cb
open PySem PySem.Spec PyProof.Rows L2
/-! ## how many frames are kept -/
mutual
def Vl.fl (B : Nat) : Vl → Prop
  | .num _ => True
  | .shut _ _ _ e => En.fl B e
  | .kept _ fs => fs.length ≤ B ∧ Mf.fls B fs
def En.fl (B : Nat) : En → Prop
  | .nil => True
  | .cons _ v e => Vl.fl B v ∧ En.fl B e
def Mf.fl (B : Nat) : Mf → Prop
  | .caller _ _ e => En.fl B e
  | .given _ v => Vl.fl B v
  | .adder _ _ e => En.fl B e
  | .added _ v => Vl.fl B v
  | .picker _ _ _ e => En.fl B e
  | .rnd => True
def Mf.fls (B : Nat) : List Mf → Prop
  | [] => True
  | f :: fs => Mf.fl B f ∧ Mf.fls B fs
end
def Sm.fl (B : Nat) : Sm → Prop
  | .go _ e fs => e.fl B ∧ Mf.fls B fs
  | .have v fs => v.fl B ∧ Mf.fls B fs
def Sm.fs : Sm → List Mf
  | .go _ _ fs => fs
  | .have _ fs => fs
theorem fls_app {B : Nat} : ∀ (fs gs : List Mf), Mf.fls B (fs ++ gs) ↔ Mf.fls B fs ∧ Mf.fls B gs
  | [], gs => by simp [Mf.fls]
  | f :: fs, gs => by simp [Mf.fls, fls_app fs gs, and_assoc]
theorem fls_take {B : Nat} : ∀ (n : Nat) (fs : List Mf), Mf.fls B fs → Mf.fls B (fs.take n)
  | 0, _, _ => by simp [Mf.fls]
  | _ + 1, [], _ => by simp [Mf.fls]
  | n + 1, f :: fs, h => ⟨h.1, fls_take n fs h.2⟩
theorem fls_drop {B : Nat} : ∀ (n : Nat) (fs : List Mf), Mf.fls B fs → Mf.fls B (fs.drop n)
  | 0, _, h => h
  | _ + 1, [], _ => by simp [Mf.fls]
  | n + 1, f :: fs, h => fls_drop n fs h.2
theorem look_fl {B : Nat} {x : Str} : ∀ {e : En}, e.fl B → ∀ {v : Vl}, look e x = some v → v.fl B
  | .nil, _, v, h => by simp [look] at h
  | .cons y w e, ho, v, h => by
    simp only [look] at h
    split at h
    · cases h; exact ho.1
    · exact look_fl ho.2 h
theorem mv_fl {B : Nat} {s : Sm} (h : s.fl B) (hl : s.fs.length ≤ B) : ∀ s', (mv s = .move s' ∨ mv s = .step s') → s'.fl B := by
  intro s' q
  cases s with
  | «have» v fs =>
    cases fs with
    | nil => rcases q with q | q <;> cases q
    | cons f fs =>
      obtain ⟨hv, hf, hs⟩ := h
      cases f with
      | caller a p e => rcases q with q | q <;> cases q; exact ⟨hf, hv, hs⟩
      | adder a p e => rcases q with q | q <;> cases q; exact ⟨hf, hv, hs⟩
      | rnd => rcases q with q | q <;> cases q; exact ⟨hv, hs⟩
      | given a w =>
        cases w with
        | num n => rcases q with q | q <;> cases q
        | shut c x b e => rcases q with q | q <;> cases q; exact ⟨⟨hv, hf⟩, hs⟩
        | kept c gs => rcases q with q | q <;> cases q; exact ⟨hv, (fls_app _ _).mpr ⟨hf.2, trivial, hs⟩⟩
      | added a w =>
        rcases q with q | q
        · cases w <;> cases v <;> cases q
        · cases w <;> cases v <;> cases q; exact ⟨trivial, hs⟩
      | picker a p r e =>
        rcases q with q | q
        · cases v <;> cases q
        · cases v <;> cases q; exact ⟨hf, hs⟩
  | go p e fs =>
    obtain ⟨he, hs⟩ := h
    cases p with
    | num m => rcases q with q | q <;> cases q; exact ⟨trivial, hs⟩
    | name x =>
      rcases q with q | q <;> cases q
      refine ⟨?_, hs⟩
      cases hl : look e x with
      | none => trivial
      | some v => exact look_fl he hl
    | rnd b => rcases q with q | q <;> cases q; exact ⟨he, trivial, hs⟩
    | pick a c f g => rcases q with q | q <;> cases q; exact ⟨he, he, hs⟩
    | call a f g => rcases q with q | q <;> cases q; exact ⟨he, he, hs⟩
    | plus a f g => rcases q with q | q <;> cases q; exact ⟨he, he, hs⟩
    | fn a x b => rcases q with q | q <;> cases q; exact ⟨he, hs⟩
    | take a x b =>
      simp only [mv] at q
      cases hr : rixm fs with
      | none => rw [hr] at q; rcases q with q | q <;> cases q
      | some m =>
        rw [hr] at q
        rcases q with q | q <;> cases q
        have hl : fs.length ≤ B := hl
        exact ⟨⟨⟨by rw [List.length_take]; omega, fls_take m fs hs⟩, he⟩, fls_drop m fs hs⟩
    | shut a x b => rcases q with q | q <;> cases q
    | kept a fs => rcases q with q | q <;> cases q
/-- the frames of a state stand in its running piece -/
theorem plug_ge : ∀ (fs : List Fr) (p : Pc), fs.length + 1 ≤ cd (plug fs p)
  | [], p => by have := frs_cd.cd_pos' p; simp [plug]; omega
  | f :: fs, p => by
    have : ∀ (fs : List Fr) (p q : Pc) (n : Nat), n ≤ cd p → fs.length + n ≤ cd (plug fs p) := by
      intro fs
      induction fs with
      | nil => intro p _ n h; simpa [plug] using h
      | cons f fs ih =>
        intro p q n h
        have h1 : n + 1 ≤ cd (f.w p) := by cases f <;> simp only [Fr.w, cd] <;> omega
        have := ih (f.w p) q (n + 1) h1
        simp only [plug, List.length_cons]
        omega
    exact this (f :: fs) p p 1 (frs_cd.cd_pos' p)
theorem shs_len : ∀ fs : List Mf, (Mf.shs fs).length = fs.length
  | [] => rfl
  | f :: fs => by simp [Mf.shs, shs_len fs]
theorem fs_ul (s : Sm) : s.fs.length + 1 ≤ cd (ul s) := by
  cases s with
  | go p e fs => have := plug_ge (Mf.shs fs) (psub e.sh p); rw [shs_len] at this; exact this
  | «have» v fs => have := plug_ge (Mf.shs fs) v.sh; rw [shs_len] at this; exact this
theorem dom_len : ∀ e : En, e.dom.length = e.sh.length
  | .nil => rfl
  | .cons _ _ e => by simp [En.dom, En.sh, dom_len e]
end Cb
namespace Cb
open PySem PySem.Spec PyProof.Rows L2
/-! ## unlike pieces are unlike data -/
mutual
def plD : D → Bool
  | .int _ => true
  | .str _ => true
  | .tup xs => plDs xs
  | _ => false
def plDs : List D → Bool
  | [] => true
  | d :: ds => plD d && plDs ds
end
mutual
theorem eqv_pl : ∀ d e : D, plD d = true → plD e = true → PyData.eqv (py d) (py e) = true → d = e
  | .int i, .int j, _, _, h => by simp [py, PyData.eqv] at h; rw [h]
  | .str i, .str j, _, _, h => by simp [py, PyData.eqv] at h; rw [h]
  | .tup xs, .tup ys, h1, h2, h => by
    simp only [plD] at h1 h2
    simp only [py, PyData.eqv] at h
    rw [eqvs_pl xs ys h1 h2 h]
  | .int i, .str j, _, _, h => by simp [py, PyData.eqv] at h
  | .int i, .tup j, _, _, h => by simp [py, PyData.eqv] at h
  | .str i, .int j, _, _, h => by simp [py, PyData.eqv] at h
  | .str i, .tup j, _, _, h => by simp [py, PyData.eqv] at h
  | .tup i, .int j, _, _, h => by simp [py, PyData.eqv] at h
  | .tup i, .str j, _, _, h => by simp [py, PyData.eqv] at h
  | .non, _, h, _, _ => by simp [plD] at h
  | .bl _, _, h, _, _ => by simp [plD] at h
  | .lst _, _, h, _, _ => by simp [plD] at h
  | .scr _, _, h, _, _ => by simp [plD] at h
  | .dic _, _, h, _, _ => by simp [plD] at h
  | .ref _, _, h, _, _ => by simp [plD] at h
  | .int _, .non, _, h, _ => by simp [plD] at h
  | .int _, .bl _, _, h, _ => by simp [plD] at h
  | .int _, .lst _, _, h, _ => by simp [plD] at h
  | .int _, .scr _, _, h, _ => by simp [plD] at h
  | .int _, .dic _, _, h, _ => by simp [plD] at h
  | .int _, .ref _, _, h, _ => by simp [plD] at h
  | .str _, .non, _, h, _ => by simp [plD] at h
  | .str _, .bl _, _, h, _ => by simp [plD] at h
  | .str _, .lst _, _, h, _ => by simp [plD] at h
  | .str _, .scr _, _, h, _ => by simp [plD] at h
  | .str _, .dic _, _, h, _ => by simp [plD] at h
  | .str _, .ref _, _, h, _ => by simp [plD] at h
  | .tup _, .non, _, h, _ => by simp [plD] at h
  | .tup _, .bl _, _, h, _ => by simp [plD] at h
  | .tup _, .lst _, _, h, _ => by simp [plD] at h
  | .tup _, .scr _, _, h, _ => by simp [plD] at h
  | .tup _, .dic _, _, h, _ => by simp [plD] at h
  | .tup _, .ref _, _, h, _ => by simp [plD] at h
theorem eqvs_pl : ∀ ds es : List D, plDs ds = true → plDs es = true → PyData.eqvAll (pyL ds) (pyL es) = true → ds = es
  | [], [], _, _, _ => rfl
  | d :: ds, e :: es, h1, h2, h => by
    simp only [plDs, Bool.and_eq_true] at h1 h2
    simp only [pyL, PyData.eqvAll, Bool.and_eq_true] at h
    rw [eqv_pl d e h1.1 h2.1 h.1, eqvs_pl ds es h1.2 h2.2 h.2]
  | [], _ :: _, _, _, h => by simp [pyL, PyData.eqvAll] at h
  | _ :: _, [], _, _, h => by simp [pyL, PyData.eqvAll] at h
end
mutual
theorem pl_pc : ∀ p : Pc, plD p.d = true
  | .num _ => by simp [Pc.d, plD, plDs]
  | .name _ => by simp [Pc.d, plD, plDs]
  | .fn _ _ b => by simp [Pc.d, plD, plDs, pl_pc b]
  | .take _ _ b => by simp [Pc.d, plD, plDs, pl_pc b]
  | .shut _ _ b => by simp [Pc.d, plD, plDs, pl_pc b]
  | .rnd b => by simp [Pc.d, plD, plDs, pl_pc b]
  | .call _ f g => by simp [Pc.d, plD, plDs, pl_pc f, pl_pc g]
  | .plus _ f g => by simp [Pc.d, plD, plDs, pl_pc f, pl_pc g]
  | .pick _ c f g => by simp [Pc.d, plD, plDs, pl_pc c, pl_pc f, pl_pc g]
  | .kept _ fs => by simp [Pc.d, plD, plDs, pl_frs fs]
theorem pl_fr : ∀ f : Fr, plD f.d = true
  | .caller _ p => by simp [Fr.d, plD, plDs, pl_pc p]
  | .given _ p => by simp [Fr.d, plD, plDs, pl_pc p]
  | .adder _ p => by simp [Fr.d, plD, plDs, pl_pc p]
  | .added _ p => by simp [Fr.d, plD, plDs, pl_pc p]
  | .picker _ p q => by simp [Fr.d, plD, plDs, pl_pc p, pl_pc q]
  | .rnd => by simp [Fr.d, plD, plDs]
theorem pl_frs : ∀ fs : List Fr, plDs (Fr.ds fs) = true
  | [] => by simp [Fr.ds, plDs]
  | f :: fs => by simp [Fr.ds, plDs, pl_fr f, pl_frs fs]
end
mutual
theorem pc_inj : ∀ p q : Pc, p.d = q.d → p = q
  | .num _, q, h => by cases q <;> simp [Pc.d, ofString_inj] at h ⊢; exact h
  | .name _, q, h => by cases q <;> simp [Pc.d, ofString_inj] at h ⊢; exact h
  | .fn _ _ b, q, h => by
    cases q <;> simp [Pc.d, ofString_inj] at h ⊢
    exact ⟨h.1, h.2.1, pc_inj b _ h.2.2⟩
  | .take _ _ b, q, h => by
    cases q <;> simp [Pc.d, ofString_inj] at h ⊢
    exact ⟨h.1, h.2.1, pc_inj b _ h.2.2⟩
  | .shut _ _ b, q, h => by
    cases q <;> simp [Pc.d, ofString_inj] at h ⊢
    exact ⟨h.1, h.2.1, pc_inj b _ h.2.2⟩
  | .rnd b, q, h => by
    cases q <;> simp [Pc.d, ofString_inj] at h ⊢
    exact pc_inj b _ h
  | .call _ f g, q, h => by
    cases q <;> simp [Pc.d, ofString_inj] at h ⊢
    exact ⟨h.1, pc_inj f _ h.2.1, pc_inj g _ h.2.2⟩
  | .plus _ f g, q, h => by
    cases q <;> simp [Pc.d, ofString_inj] at h ⊢
    exact ⟨h.1, pc_inj f _ h.2.1, pc_inj g _ h.2.2⟩
  | .pick _ c f g, q, h => by
    cases q <;> simp [Pc.d, ofString_inj] at h ⊢
    exact ⟨h.1, pc_inj c _ h.2.1, pc_inj f _ h.2.2.1, pc_inj g _ h.2.2.2⟩
  | .kept _ fs, q, h => by
    cases q <;> simp [Pc.d, ofString_inj] at h ⊢
    exact ⟨h.1, frs_inj fs _ h.2⟩
theorem fr_inj : ∀ f g : Fr, f.d = g.d → f = g
  | .caller _ p, q, h => by
    cases q <;> simp [Fr.d, ofString_inj] at h ⊢
    exact ⟨h.1, pc_inj p _ h.2⟩
  | .given _ p, q, h => by
    cases q <;> simp [Fr.d, ofString_inj] at h ⊢
    exact ⟨h.1, pc_inj p _ h.2⟩
  | .adder _ p, q, h => by
    cases q <;> simp [Fr.d, ofString_inj] at h ⊢
    exact ⟨h.1, pc_inj p _ h.2⟩
  | .added _ p, q, h => by
    cases q <;> simp [Fr.d, ofString_inj] at h ⊢
    exact ⟨h.1, pc_inj p _ h.2⟩
  | .picker _ p p', q, h => by
    cases q <;> simp [Fr.d, ofString_inj] at h ⊢
    exact ⟨h.1, pc_inj p _ h.2.1, pc_inj p' _ h.2.2⟩
  | .rnd, q, h => by cases q <;> simp [Fr.d, ofString_inj] at h ⊢
theorem frs_inj : ∀ fs gs : List Fr, Fr.ds fs = Fr.ds gs → fs = gs
  | [], [], _ => rfl
  | f :: fs, g :: gs, h => by
    simp only [Fr.ds, List.cons.injEq] at h
    rw [fr_inj f g h.1, frs_inj fs gs h.2]
  | [], _ :: _, h => by simp [Fr.ds] at h
  | _ :: _, [], h => by simp [Fr.ds] at h
end
theorem tup_of : ∀ p : Pc, ∃ xs, p.d = .tup xs := by intro p; cases p <;> exact ⟨_, rfl⟩
open Classical in
theorem dEqv_pc (L : Nat) (S : List O) (p q : Pc) (h1 : (py p.d).canLay0 = true) (h2 : (py q.d).canLay0 = true) (h3 : fd p ≤ L) : dEqv L S p.d q.d = some (decide (p = q)) := by
  obtain ⟨xs, ex⟩ := tup_of p
  obtain ⟨ys, ey⟩ := tup_of q
  have hd := fd_is p
  have hp := pl_pc p
  have hq := pl_pc q
  have inj := pc_inj p q
  rw [ex] at h1 hd hp inj ⊢
  rw [ey] at h2 hq inj ⊢
  have e : dEqv L S (.tup xs) (.tup ys) = if (py (.tup xs)).canLay0 = true ∧ (py (.tup ys)).canLay0 = true ∧ min (py (.tup xs)).depth (py (.tup ys)).depth ≤ L then some (PyData.eqv (py (.tup xs)) (py (.tup ys))) else none := rfl
  rw [e, if_pos ⟨h1, h2, by omega⟩]
  congr 1
  by_cases hh : p = q
  · subst hh
    rw [ex] at ey
    cases ey
    rw [SeqAt.eqv_refl _ h1]
    simp
  · rw [decide_eq_false hh]
    cases hb : PyData.eqv (py (.tup xs)) (py (.tup ys)) with
    | false => rfl
    | true => exact absurd (inj (eqv_pl _ _ hp hq hb)) hh
end Cb
namespace Cb
open PySem PySem.Spec PyProof.Rows L2
/-! ## what is come to -/
inductive Rs where
  | number (n : Int) | func (a : Int) | kept (a : Int) | stuck (a : Int) | dry
def Rs.d : Rs → D
  | .number n => .tup [.str "number", .int n]
  | .func a => .tup [.str "function", .int a]
  | .kept a => .tup [.str "kept", .int a]
  | .stuck a => .tup [.str "stuck", .int a]
  | .dry => .tup [.str "dry"]
def lst : Nat → Pc → Pc
  | 0, p => p
  | n + 1, p => match step p with
    | .step q => lst n q
    | _ => p
def ansP : Pc → Rs
  | .num n => .number n
  | .shut a _ _ => .func a
  | .kept a _ => .kept a
  | _ => .dry
/-- by putting in -/
def resP : Nat → Pc → Rs
  | n, p => match step p with
    | .val => ansP p
    | .stuck a => .stuck a
    | .step q => match n with
      | 0 => .dry
      | n + 1 => resP n q
def ansV : Vl → Rs
  | .num n => .number n
  | .shut a _ _ _ => .func a
  | .kept a _ => .kept a
theorem ans_sh (v : Vl) : ansP v.sh = ansV v := by cases v <;> rfl
/-- by the machine: t turns, n steps -/
def resM : Nat → Nat → Sm → Rs
  | 0, _, _ => .dry
  | t + 1, n, s => match mv s with
    | .val v => ansV v
    | .stuck a => .stuck a
    | .move s' => resM t n s'
    | .step s' => match n with
      | 0 => .dry
      | n + 1 => resM t n s'
theorem step_isV {p : Pc} (h : p.isV = true) : step p = .val := by unfold step; simp [h]
/-- where code is at most so deep, at most so many moves stand between two steps -/
def Sm.shal : Sm → Prop
  | .go p _ fs => cd p ≤ 41 ∧ ∀ f ∈ fs, (match f with | .caller _ p _ => cd p ≤ 41 | .adder _ p _ => cd p ≤ 41 | _ => True)
  | .have _ fs => ∀ f ∈ fs, (match f with | .caller _ p _ => cd p ≤ 41 | .adder _ p _ => cd p ≤ 41 | _ => True)
theorem ht_le : ∀ fs : List Mf, (∀ f ∈ fs, (match f with | .caller _ p _ => cd p ≤ 41 | .adder _ p _ => cd p ≤ 41 | _ => True)) → ht fs ≤ 124
  | [], _ => by simp [ht]
  | f :: fs, h => by
    have h := h f List.mem_cons_self
    cases f with
    | caller a p e => have := rm_cd p; simp only [ht]; simp only at h; omega
    | adder a p e => have := rm_cd p; simp only [ht]; simp only at h; omega
    | _ => simp [ht]
theorem mu_le {s : Sm} (h : s.shal) : mu s ≤ 125 := by
  cases s with
  | go p e fs =>
    have := ht_le fs h.2
    have := rm_cd p
    have := h.1
    simp only [mu]
    split <;> omega
  | «have» v fs => have := ht_le fs h; simp only [mu]; omega
theorem oks_mem {Q : List Str → Pc → Prop} : ∀ {fs : List Mf}, Mf.oks Q fs → ∀ f ∈ fs, Mf.ok Q f
  | [], _, f, h => by simp at h
  | g :: fs, ho, f, h => by
    rcases List.mem_cons.mp h with q | q
    · rw [q]; exact ho.1
    · exact oks_mem ho.2 f q
theorem shal_of {Q : List Str → Pc → Prop} (hc : ∀ sc p, Q sc p → cd p ≤ 41) {s : Sm} (h : s.ok Q) : s.shal := by
  have aux : ∀ fs, Mf.oks Q fs → ∀ f ∈ fs, (match f with | .caller _ p _ => cd p ≤ 41 | .adder _ p _ => cd p ≤ 41 | _ => True) := by
    intro fs ho f hf
    have := oks_mem ho f hf
    cases f with
    | caller a p e => exact hc _ _ this.1
    | adder a p e => exact hc _ _ this.1
    | _ => trivial
  cases s with
  | go p e fs => exact ⟨hc _ _ h.1, aux fs h.2.2⟩
  | «have» v fs => exact aux fs h.2
/-- the machine and putting in come to the same -/
theorem resM_is {Q : List Str → Pc → Prop} (hQ : QC Q) (hc : ∀ sc p, Q sc p → cd p ≤ 41) : ∀ (t n : Nat) (s : Sm), s.ok Q → mu s + 126 * n < t → resM t n s = resP n (ul s)
  | 0, _, _, _, h => by omega
  | t + 1, n, s, ho, h => by
    have hs := sim hQ s ho
    have hmv := @move_mu s
    unfold resM
    cases hm : mv s with
    | val v =>
      rw [hm] at hs
      have hs : ul s = v.sh := hs
      unfold resP
      rw [hs, step_isV (sh_isV v)]
      exact (ans_sh v).symm
    | stuck a =>
      rw [hm] at hs
      have hs : step (ul s) = .stuck a := hs
      unfold resP
      rw [hs]
    | move s' =>
      rw [hm] at hs
      have := hmv hm
      obtain ⟨h1, h2⟩ : ul s' = ul s ∧ s'.ok Q := hs
      simp only
      rw [resM_is hQ hc t n s' h2 (by omega), h1]
    | step s' =>
      rw [hm] at hs
      obtain ⟨h1, h2⟩ : step (ul s) = .step (ul s') ∧ s'.ok Q := hs
      unfold resP
      rw [h1]
      cases n with
      | zero => rfl
      | succ n =>
        have := mu_le (shal_of hc h2)
        simp only
        exact resM_is hQ hc t n s' h2 (by omega)
theorem resP_lst : ∀ (n : Nat) (p : Pc), resP n p = match step (lst n p) with
    | .val => ansP (lst n p)
    | .stuck a => .stuck a
    | .step _ => .dry
  | 0, p => by unfold resP; simp only [lst]
  | n + 1, p => by
    unfold resP
    simp only [lst]
    cases h : step p with
    | val => simp [h]
    | stuck a => simp [h]
    | step q => exact resP_lst n q
/-- what holds of all states -/
structure Iv (Q : List Str → Pc → Prop) (P : Nat → Pc → Prop) (B : Nat) (n : Nat) (s : Sm) : Prop where
  ok : s.ok Q
  fl : s.fl B
  bd : s.bd n
  at_ : P n (ul s)
theorem Iv.move {Q : List Str → Pc → Prop} {P : Nat → Pc → Prop} {B n : Nat} {s s' : Sm} (hQ : QC Q) (h : Iv Q P B n s) (hc : cd (ul s) ≤ B) (hm : mv s = .move s') : Iv Q P B n s' := by
  have hs := sim hQ s h.ok
  rw [hm] at hs
  obtain ⟨h1, h2⟩ : ul s' = ul s ∧ s'.ok Q := hs
  have := fs_ul s
  exact ⟨h2, mv_fl h.fl (by omega) s' (.inl hm), (mv_bd h.bd).1 s' hm, by rw [h1]; exact h.at_⟩
theorem Iv.step {Q : List Str → Pc → Prop} {P : Nat → Pc → Prop} {B n : Nat} {s s' : Sm} (hQ : QC Q) (hP : ∀ n p q, P n p → step p = .step q → P (n + 1) q) (h : Iv Q P B n s) (hc : cd (ul s) ≤ B) (hm : mv s = .step s') : Iv Q P B (n + 1) s' := by
  have hs := sim hQ s h.ok
  rw [hm] at hs
  obtain ⟨h1, h2⟩ : Cb.step (ul s) = .step (ul s') ∧ s'.ok Q := hs
  have := fs_ul s
  exact ⟨h2, mv_fl h.fl (by omega) s' (.inr hm), (mv_bd h.bd).2 s' hm, hP _ _ _ h.at_ h1⟩
end Cb
namespace Cb
open PySem PySem.Spec PyProof.Rows L2
/-! ## states follow steps -/
def pth : Nat → Pc → List Pc
  | 0, _ => []
  | n + 1, p => match step p with
    | .step q => q :: pth n q
    | _ => []
inductive Fol : List Pc → Pc → List Pc → Prop
  | nil {c : Pc} : Fol [] c []
  | same {us : List Pc} {c : Pc} {ps : List Pc} : Fol us c ps → Fol (c :: us) c ps
  | next {us : List Pc} {c b : Pc} {ps : List Pc} : Fol us b ps → Fol (b :: us) c (b :: ps)
theorem run_fol {Q : List Str → Pc → Prop} (hQ : QC Q) (hc : ∀ sc p, Q sc p → cd p ≤ 41) : ∀ (t n : Nat) (s : Sm), s.ok Q → mu s + 126 * n < t → Fol ((run t n s).map ul) (ul s) (pth n (ul s))
  | 0, _, _, _, h => by omega
  | t + 1, n, s, ho, h => by
    have hs := sim hQ s ho
    have hmv := @move_mu s
    unfold run
    cases hm : mv s with
    | val v =>
      rw [hm] at hs
      have hs : ul s = v.sh := hs
      have e : pth n (ul s) = [] := by
        cases n with
        | zero => rfl
        | succ n => simp only [pth]; rw [hs, step_isV (sh_isV v)]
      rw [e]
      exact .nil
    | stuck a =>
      rw [hm] at hs
      have hs : step (ul s) = .stuck a := hs
      have e : pth n (ul s) = [] := by
        cases n with
        | zero => rfl
        | succ n => simp only [pth]; rw [hs]
      rw [e]
      exact .nil
    | move s' =>
      rw [hm] at hs
      have := hmv hm
      obtain ⟨h1, h2⟩ : ul s' = ul s ∧ s'.ok Q := hs
      have ih := run_fol hQ hc t n s' h2 (by omega)
      rw [h1] at ih
      simp only [List.map_cons, h1]
      exact .same ih
    | step s' =>
      rw [hm] at hs
      obtain ⟨h1, h2⟩ : step (ul s) = .step (ul s') ∧ s'.ok Q := hs
      cases n with
      | zero => exact .nil
      | succ n =>
        have := mu_le (shal_of hc h2)
        have ih := run_fol hQ hc t n s' h2 (by omega)
        simp only [List.map_cons, pth, h1]
        exact .next ih
/-- shallow code, few moves -/
def Sm.low (c : Nat) : Sm → Prop
  | .go p _ fs => cd p ≤ c ∧ ∀ f ∈ fs, (match f with | .caller _ p _ => cd p ≤ c | .adder _ p _ => cd p ≤ c | _ => True)
  | .have _ fs => ∀ f ∈ fs, (match f with | .caller _ p _ => cd p ≤ c | .adder _ p _ => cd p ≤ c | _ => True)
theorem ht_low {c : Nat} : ∀ fs : List Mf, (∀ f ∈ fs, (match f with | .caller _ p _ => cd p ≤ c | .adder _ p _ => cd p ≤ c | _ => True)) → ht fs ≤ 3 * c + 1
  | [], _ => by simp [ht]
  | f :: fs, h => by
    have h := h f List.mem_cons_self
    cases f with
    | caller a p e => have := rm_cd p; simp only [ht]; simp only at h; omega
    | adder a p e => have := rm_cd p; simp only [ht]; simp only at h; omega
    | _ => simp [ht]
theorem mu_low {c : Nat} {s : Sm} (h : s.low c) : mu s ≤ 3 * c + 2 := by
  cases s with
  | go p e fs =>
    have := ht_low fs h.2
    have := rm_cd p
    have := h.1
    simp only [mu]
    split <;> omega
  | «have» v fs => have := ht_low fs h; simp only [mu]; omega
theorem low_of {c : Nat} {Q : List Str → Pc → Prop} (hc : ∀ sc p, Q sc p → cd p ≤ c) {s : Sm} (h : s.ok Q) : s.low c := by
  have aux : ∀ fs, Mf.oks Q fs → ∀ f ∈ fs, (match f with | .caller _ p _ => cd p ≤ c | .adder _ p _ => cd p ≤ c | _ => True) := by
    intro fs ho f hf
    have := oks_mem ho f hf
    cases f with
    | caller a p e => exact hc _ _ this.1
    | adder a p e => exact hc _ _ this.1
    | _ => trivial
  cases s with
  | go p e fs => exact ⟨hc _ _ h.1, aux fs h.2.2⟩
  | «have» v fs => exact aux fs h.2
theorem run_len {c : Nat} {Q : List Str → Pc → Prop} (hQ : QC Q) (hc : ∀ sc p, Q sc p → cd p ≤ c) : ∀ (t n : Nat) (s : Sm), s.ok Q → (run t n s).length ≤ mu s + (3 * c + 3) * (pth n (ul s)).length
  | 0, _, _, _ => by simp [run]
  | t + 1, n, s, ho => by
    have hs := sim hQ s ho
    have hmv := @move_mu s
    unfold run
    cases hm : mv s with
    | val v => simp
    | stuck a => simp
    | move s' =>
      rw [hm] at hs
      have := hmv hm
      obtain ⟨h1, h2⟩ : ul s' = ul s ∧ s'.ok Q := hs
      have ih := run_len hQ hc t n s' h2
      rw [h1] at ih
      simp only [List.length_cons]
      omega
    | step s' =>
      rw [hm] at hs
      obtain ⟨h1, h2⟩ : step (ul s) = .step (ul s') ∧ s'.ok Q := hs
      cases n with
      | zero => simp
      | succ n =>
        have hl := mu_low (low_of hc h2)
        have ih := run_len hQ hc t n s' h2
        simp only [List.length_cons, pth, h1]
        rw [Nat.mul_add]
        omega
theorem run_iv {P : Nat → Pc → Prop} {B N : Nat} {Q : List Str → Pc → Prop} (hQ : QC Q) (hP : ∀ n p q, P n p → step p = .step q → P (n + 1) q) (hB : ∀ n p, n ≤ N → P n p → cd p ≤ B) : ∀ (t n j : Nat) (s : Sm), j + n ≤ N → Iv Q P B j s → ∀ r ∈ run t n s, ∃ i, i ≤ j + n ∧ Iv Q P B i r
  | 0, _, _, _, _, _, r, hr => by simp [run] at hr
  | t + 1, n, j, s, hj, iv, r, hr => by
    unfold run at hr
    cases hm : mv s with
    | val v => rw [hm] at hr; simp at hr
    | stuck a => rw [hm] at hr; simp at hr
    | move s' =>
      rw [hm] at hr
      have iv' := iv.move hQ (hB j _ (by omega) iv.at_) hm
      rcases List.mem_cons.mp hr with q | q
      · subst q; exact ⟨j, by omega, iv'⟩
      · exact run_iv hQ hP hB t n j s' hj iv' r q
    | step s' =>
      rw [hm] at hr
      cases n with
      | zero => simp at hr
      | succ n =>
        have iv' := iv.step hQ hP (hB j _ (by omega) iv.at_) hm
        rcases List.mem_cons.mp hr with q | q
        · subst q; exact ⟨j + 1, by omega, iv'⟩
        · obtain ⟨i, h1, h2⟩ := run_iv hQ hP hB t n (j + 1) s' (by omega) iv' r q
          exact ⟨i, by omega, h2⟩
/-! the unlike ones -/
open Classical in
noncomputable def dd : Pc → List Pc → List Pc
  | _, [] => []
  | a, b :: r => if b = a then dd b r else b :: dd b r
theorem dd_len : ∀ (a : Pc) (l : List Pc), (dd a l).length ≤ l.length
  | _, [] => by simp [dd]
  | a, b :: r => by
    have := dd_len b r
    simp only [dd]
    split <;> simp <;> omega
theorem dd_mem : ∀ (a : Pc) (l : List Pc), ∀ x ∈ dd a l, x ∈ l
  | _, [], x, h => by simp [dd] at h
  | a, b :: r, x, h => by
    simp only [dd] at h
    split at h
    · exact List.mem_cons_of_mem _ (dd_mem b r x h)
    · rcases List.mem_cons.mp h with q | q
      · rw [q]; exact List.mem_cons_self
      · exact List.mem_cons_of_mem _ (dd_mem b r x q)
/-- the last one -/
def lastP : Pc → List Pc → Pc
  | a, [] => a
  | _, b :: r => lastP b r
theorem dd_last : ∀ (a : Pc) (l : List Pc), lastP a (dd a l) = lastP a l
  | _, [] => rfl
  | a, b :: r => by
    simp only [dd]
    split
    · rename_i h
      subst h
      exact dd_last b r
    · exact dd_last b r
theorem fol_last {us : List Pc} {c : Pc} {ps : List Pc} (h : Fol us c ps) : lastP c us = lastP c ps := by
  induction h with
  | nil => rfl
  | same _ ih => exact ih
  | next _ ih => exact ih
theorem lastP_app : ∀ (a : Pc) (l : List Pc), ∃ l', a :: l = l' ++ [lastP a l]
  | a, [] => ⟨[], rfl⟩
  | a, b :: r => by
    obtain ⟨l', h⟩ := lastP_app b r
    exact ⟨a :: l', by simp only [lastP, List.cons_append]; rw [← h]⟩
def lastS : Sm → List Sm → Sm
  | a, [] => a
  | _, b :: r => lastS b r
theorem lastS_app : ∀ (a : Sm) (l : List Sm), ∃ l', a :: l = l' ++ [lastS a l]
  | a, [] => ⟨[], rfl⟩
  | a, b :: r => by
    obtain ⟨l', h⟩ := lastS_app b r
    exact ⟨a :: l', by simp only [lastS, List.cons_append]; rw [← h]⟩
theorem lastS_ul : ∀ (a : Sm) (l : List Sm), ul (lastS a l) = lastP (ul a) (l.map ul)
  | a, [] => rfl
  | a, b :: r => lastS_ul b r
theorem lastS_mem : ∀ (a : Sm) (l : List Sm), lastS a l ∈ a :: l
  | a, [] => List.mem_cons_self
  | a, b :: r => List.mem_cons_of_mem _ (lastS_mem b r)
end Cb
namespace Cb
open PySem PySem.Spec PyProof.Rows L2
/-! ## plain terms, plain -/
inductive Tm where
  | num (n : Int) | name (w : Str) | code (fn : Bool) (a : Int) (w k g : Str) (t : Tm) | thn (w g : Str) (t : Tm) | last (w : Str) (t : Tm) | halt | fin
  | pass (k p g : Tm) | leave (g p : Tm) | shut (p k g : Tm) | call (a : Int) (p q k g : Tm) | plus (a : Int) (p q k g : Tm) | pick (a : Int) (p t u : Tm) | ask (a : Int) (g t : Tm) | lt (w : Str) (p t : Tm)
def wdC (fn : Bool) : Str := if fn = true then "function" else "kept"
def Tm.d : Tm → D
  | .num n => .tup [.str "num", .int n]
  | .name w => .tup [.str "name", .str w]
  | .code fn a w k g t => .tup [.str "code", .str (wdC fn), .int a, .str w, .str k, .str g, t.d]
  | .thn w g t => .tup [.str "then", .str w, .str g, t.d]
  | .last w t => .tup [.str "last", .str w, t.d]
  | .halt => .tup [.str "halt"]
  | .fin => .tup [.str "end"]
  | .pass k p g => .tup [.str "pass", k.d, p.d, g.d]
  | .leave g p => .tup [.str "leave", g.d, p.d]
  | .shut p k g => .tup [.str "shut", p.d, k.d, g.d]
  | .call a p q k g => .tup [.str "call", .int a, p.d, q.d, k.d, g.d]
  | .plus a p q k g => .tup [.str "plus", .int a, p.d, q.d, k.d, g.d]
  | .pick a p t u => .tup [.str "pick", .int a, p.d, t.d, u.d]
  | .ask a g t => .tup [.str "ask", .int a, g.d, t.d]
  | .lt w p t => .tup [.str "let", .str w, p.d, t.d]
/-! what is meant -/
mutual
inductive Cl where
  | num (n : Int) | halt | fin | code (fn : Bool) (a : Int) (w k g : Str) (t : Tm) (e : Ce) | thn (w g : Str) (t : Tm) (e : Ce) | last (w : Str) (t : Tm) (e : Ce)
inductive Ce where
  | nil | cons (x : Str) (v : Cl) (e : Ce)
end
mutual
def Cl.d : Cl → D
  | .num n => .tup [.str "num", .int n]
  | .halt => .tup [.str "halt"]
  | .fin => .tup [.str "end"]
  | .code fn a w k g t e => .tup [.str "code", .str (wdC fn), .int a, .str w, .str k, .str g, t.d, .dic (Ce.ks e)]
  | .thn w g t e => .tup [.str "then", .str w, .str g, t.d, .dic (Ce.ks e)]
  | .last w t e => .tup [.str "last", .str w, t.d, .dic (Ce.ks e)]
def Ce.ks : Ce → List (Key × D)
  | .nil => []
  | .cons x v e => (.inr x, v.d) :: Ce.ks e
end
def getE : Ce → Str → Option Cl
  | .nil, _ => none
  | .cons y v e, x => if y = x then some v else getE e x
/-- in its place, or at the end -/
def setE : Ce → Str → Cl → Ce
  | .nil, x, v => .cons x v .nil
  | .cons y w e, x, v => if y = x then .cons y v e else .cons y w (setE e x v)
theorem getE_set (x : Str) (v : Cl) (y : Str) : ∀ e : Ce, getE (setE e x v) y = if y = x then some v else getE e y
  | .nil => by
    simp only [setE, getE]
    by_cases h : x = y
    · simp [h]
    · have : ¬ y = x := fun q => h q.symm
      simp [h, this]
  | .cons z w e => by
    simp only [setE]
    by_cases hz : z = x
    · subst hz
      simp only [if_true, getE]
      by_cases h : z = y
      · simp [h]
      · have : ¬ y = z := fun q => h q.symm
        simp [h, this]
    · rw [if_neg hz]
      simp only [getE]
      rw [getE_set x v y e]
      by_cases h : z = y
      · subst h; simp [hz]
      · simp [h]
def Ce.len : Ce → Nat
  | .nil => 0
  | .cons _ _ e => e.len + 1
theorem setE_len (x : Str) (v : Cl) : ∀ e : Ce, (setE e x v).len ≤ e.len + 1
  | .nil => by simp [setE, Ce.len]
  | .cons y w e => by
    simp only [setE]
    split
    · simp [Ce.len]
    · have := setE_len x v e; simp only [Ce.len]; omega
def mean : Tm → Ce → Option Cl
  | .name w, e => getE e w
  | .num n, _ => some (.num n)
  | .halt, _ => some .halt
  | .fin, _ => some .fin
  | .code fn a w k g t, e => some (.code fn a w k g t e)
  | .thn w g t, e => some (.thn w g t e)
  | .last w t, e => some (.last w t e)
  | _, _ => none
inductive Gn where
  | told (v : Cl) | at_ (t : Tm) (e : Ce)
inductive Pv where
  | move (g : Gn) | step (g : Gn) | stuck (a : Int)
def goi : Cl → Cl → Cl → Option Gn
  | .halt, v, _ => some (.told v)
  | .thn w g' t e, v, g => some (.at_ t (setE (setE e w v) g' g))
  | _, _, _ => none
/-- one turn -/
def gon : Tm → Ce → Option Pv
  | .pass k p g, e => (mean k e).bind fun k => (mean p e).bind fun p => (mean g e).bind fun g => (goi k p g).map .move
  | .lt w p t, e => (mean p e).map fun v => .move (.at_ t (setE e w v))
  | .leave g p, e => (mean g e).bind fun l => (mean p e).bind fun v => match l with
    | .last w t e' => some (.step (.at_ t (setE e' w v)))
    | _ => none
  | .shut p k g, e => (mean k e).bind fun k => (mean p e).bind fun p => (mean g e).bind fun g => (goi k p g).map .step
  | .call a p q k g, e => (mean p e).bind fun f => match f with
    | .code _ _ x k' g' t e' => (mean q e).bind fun q => (mean k e).bind fun k => (mean g e).bind fun g => some (.step (.at_ t (setE (setE (setE e' x q) k' k) g' g)))
    | _ => some (.stuck a)
  | .plus a p q k g, e => (mean p e).bind fun x => (mean q e).bind fun y => match x, y with
    | .num m, .num n => (mean k e).bind fun k => (mean g e).bind fun g => (goi k (.num (m + n)) g).map .step
    | _, _ => some (.stuck a)
  | .pick a p t u, e => (mean p e).bind fun v => match v with
    | .num n => some (.step (.at_ (if n = 0 then t else u) e))
    | _ => some (.stuck a)
  | .ask a g t, e => (mean g e).bind fun v => match v with
    | .fin => some (.stuck a)
    | _ => some (.step (.at_ t e))
  | _, _ => none
def ansC : Cl → Option Rs
  | .num n => some (.number n)
  | .code true a .. => some (.func a)
  | .code false a .. => some (.kept a)
  | _ => none
/-- t turns, n steps -/
def prun : Nat → Nat → Tm → Ce → Option Rs
  | 0, _, _, _ => none
  | t + 1, n, tm, e => match gon tm e with
    | none => none
    | some (.stuck a) => some (.stuck a)
    | some (.move (.told v)) => ansC v
    | some (.move (.at_ tm' e')) => prun t n tm' e'
    | some (.step g) => match n with
      | 0 => some .dry
      | n + 1 => match g with
        | .told v => ansC v
        | .at_ tm' e' => prun t n tm' e'
/-- from what goes on -/
def prunG (t n : Nat) : Gn → Option Rs
  | .told v => ansC v
  | .at_ tm e => prun t n tm e
theorem prun_more : ∀ {t n : Nat} {tm : Tm} {e : Ce} {r : Rs} {t' : Nat}, prun t n tm e = some r → t ≤ t' → prun t' n tm e = some r
  | 0, _, _, _, _, _, h, _ => by simp [prun] at h
  | t + 1, n, tm, e, r, 0, _, h => by omega
  | t + 1, n, tm, e, r, t' + 1, h, hl => by
    unfold prun at h ⊢
    cases hg : gon tm e with
    | none => rw [hg] at h; simp at h
    | some v =>
      rw [hg] at h
      cases v with
      | stuck a => exact h
      | move g =>
        cases g with
        | told v => exact h
        | at_ tm' e' => exact prun_more (t' := t') h (by omega)
      | step g =>
        cases n with
        | zero => exact h
        | succ n =>
          cases g with
          | told v => exact h
          | at_ tm' e' => exact prun_more (t' := t') h (by omega)
/-! ## the plain term of a piece -/
def nm (l : Str) (n : Nat) : Str := l ++ (toString (n : Int) : Str)
def leavT (c : Nat) : Tm := .thn (nm "V" (c + 1)) (nm "G" (c + 2)) (.leave (.name (nm "G" (c + 2))) (.name (nm "V" (c + 1))))
def ser : Pc → Tm → Tm → Nat → Tm × Nat
  | .num n, k, g, c => (.pass k (.num n) g, c)
  | .name x, k, g, c => (.pass k (.name x) g, c)
  | .fn a x b, k, g, c =>
    let body := ser b (.name (nm "K" (c + 1))) (.name (nm "G" (c + 2))) (c + 2)
    (.shut (.code true a x (nm "K" (c + 1)) (nm "G" (c + 2)) body.1) k g, body.2)
  | .call a f p, k, g, c =>
    let s := ser p (.thn (nm "V" (c + 3)) (nm "G" (c + 4)) (.call a (.name (nm "V" (c + 1))) (.name (nm "V" (c + 3))) k (.name (nm "G" (c + 4))))) (.name (nm "G" (c + 2))) (c + 4)
    ser f (.thn (nm "V" (c + 1)) (nm "G" (c + 2)) s.1) g s.2
  | .plus a f p, k, g, c =>
    let s := ser p (.thn (nm "V" (c + 3)) (nm "G" (c + 4)) (.plus a (.name (nm "V" (c + 1))) (.name (nm "V" (c + 3))) k (.name (nm "G" (c + 4))))) (.name (nm "G" (c + 2))) (c + 4)
    ser f (.thn (nm "V" (c + 1)) (nm "G" (c + 2)) s.1) g s.2
  | .pick a p f f', k, g, c =>
    let s := ser f (.name (nm "K" (c + 1))) (.name (nm "G" (c + 3))) (c + 3)
    let s' := ser f' (.name (nm "K" (c + 1))) (.name (nm "G" (c + 3))) s.2
    let r := ser p (.thn (nm "V" (c + 2)) (nm "G" (c + 3)) (.pick a (.name (nm "V" (c + 2))) s.1 s'.1)) g s'.2
    (.lt (nm "K" (c + 1)) k r.1, r.2)
  | .rnd b, k, g, c => ser b (leavT (c + 1)) (.last (nm "V" (c + 1)) (.pass k (.name (nm "V" (c + 1))) g)) (c + 3)
  | .take a x b, k, g, c =>
    let s := ser b (leavT (c + 1)) (.name (nm "G" (c + 1))) (c + 3)
    let kc := Tm.code false a (nm "V" (s.2 + 1)) (nm "K" (s.2 + 2)) (nm "G" (s.2 + 3)) (.pass k (.name (nm "V" (s.2 + 1))) (.last (nm "V" (s.2 + 4)) (.pass (.name (nm "K" (s.2 + 2))) (.name (nm "V" (s.2 + 4))) (.name (nm "G" (s.2 + 3))))))
    (.lt (nm "G" (c + 1)) g (.ask a (.name (nm "G" (c + 1))) (.lt x kc s.1)), s.2 + 4)
  | .shut .., k, g, c => (.pass k .fin g, c)
  | .kept .., k, g, c => (.pass k .fin g, c)
def plainT (p : Pc) : Tm := (ser p .halt .fin 0).1
theorem ser_le : ∀ (p : Pc) (k g : Tm) (c : Nat), c ≤ (ser p k g c).2
  | .num _, _, _, _ => Nat.le_refl _
  | .name _, _, _, _ => Nat.le_refl _
  | .fn a x b, k, g, c => by have := ser_le b (.name (nm "K" (c + 1))) (.name (nm "G" (c + 2))) (c + 2); simp only [ser]; omega
  | .call a f p, k, g, c => by simp only [ser]; exact Nat.le_trans (Nat.le_trans (by omega) (ser_le p _ _ (c + 4))) (ser_le f _ _ _)
  | .plus a f p, k, g, c => by simp only [ser]; exact Nat.le_trans (Nat.le_trans (by omega) (ser_le p _ _ (c + 4))) (ser_le f _ _ _)
  | .pick a p f f', k, g, c => by simp only [ser]; exact Nat.le_trans (Nat.le_trans (Nat.le_trans (by omega) (ser_le f _ _ (c + 3))) (ser_le f' _ _ _)) (ser_le p _ _ _)
  | .rnd b, k, g, c => by simp only [ser]; exact Nat.le_trans (by omega) (ser_le b _ _ (c + 3))
  | .take a x b, k, g, c => by simp only [ser]; exact Nat.le_trans (Nat.le_trans (by omega) (ser_le b _ _ (c + 3))) (Nat.le_add_right _ 4)
  | .shut .., _, _, _ => Nat.le_refl _
  | .kept .., _, _, _ => Nat.le_refl _
end Cb
namespace Cb
open PySem PySem.Spec PyProof.Rows L2
/-! ## names that are new -/
def sg (l : Str) : Prop := l = "V" ∨ l = "K" ∨ l = "G"
theorem sg_cps {l : Str} (h : sg l) : ∃ c, l.cps.toList = [c] ∧ c < 97 := by
  rcases h with rfl | rfl | rfl
  · exact ⟨86, by decide +kernel, by decide⟩
  · exact ⟨75, by decide +kernel, by decide⟩
  · exact ⟨71, by decide +kernel, by decide⟩
theorem nm_cps (l : Str) (n : Nat) : (nm l n).cps.toList = l.cps.toList ++ (Str.ofString (toString (n : Int))).cps.toList := app_cps _ _
theorem str_ext' {a b : Str} (h : a.cps.toList = b.cps.toList) : a = b := by
  obtain ⟨a⟩ := a
  obtain ⟨b⟩ := b
  have : a = b := Array.ext' h
  rw [this]
theorem nm_inj {l l' : Str} {n n' : Nat} (hl : sg l) (hl' : sg l') (h : nm l n = nm l' n') : n = n' := by
  have h1 := congrArg (fun z => z.cps.toList) h
  simp only [nm_cps] at h1
  obtain ⟨c, hc, _⟩ := sg_cps hl
  obtain ⟨c', hc', _⟩ := sg_cps hl'
  rw [hc, hc'] at h1
  simp only [List.cons_append, List.nil_append, List.cons.injEq] at h1
  have h2 : Str.ofString (toString (n : Int)) = Str.ofString (toString (n' : Int)) := str_ext' h1.2
  have h3 : toString (n : Int) = toString (n' : Int) := ofString_inj.mp h2
  have h4 : (n : Int) = (n' : Int) := Int.repr_inj.mp h3
  omega
theorem nm_ne {l l' : Str} {n n' : Nat} (hl : sg l) (hl' : sg l') (h : n ≠ n') : ¬ nm l n = nm l' n' := fun e => h (nm_inj hl hl' e)
theorem nm_not {l : Str} {n : Nat} (hl : sg l) : ¬ nmOk (nm l n) := fun h => by
  obtain ⟨c, hc, h97⟩ := sg_cps hl
  have := h.2.2 c (by rw [nm_cps, hc]; simp)
  omega
theorem sV : sg "V" := .inl rfl
theorem sK : sg "K" := .inr (.inl rfl)
theorem sG : sg "G" := .inr (.inr rfl)
def lowS (c : Nat) (x : Str) : Prop := nmOk x ∨ ∃ l n, sg l ∧ n ≤ c ∧ x = nm l n
theorem low_nm {c n : Nat} {l : Str} (h : sg l) (hn : n ≤ c) : lowS c (nm l n) := .inr ⟨l, n, h, hn, rfl⟩
theorem low_mono {c c' : Nat} {x : Str} (h : c ≤ c') (q : lowS c x) : lowS c' x := by
  rcases q with q | ⟨l, n, a, b, e⟩
  · exact .inl q
  · exact .inr ⟨l, n, a, by omega, e⟩
theorem not_low {c n : Nat} {l : Str} (h : sg l) (hn : c < n) : ¬ lowS c (nm l n) := fun q => by
  rcases q with q | ⟨l', n', a, b, e⟩
  · exact nm_not h q
  · have := nm_inj h a e; omega
/-- alike at names up to c -/
def AG (c : Nat) (r r' : Ce) : Prop := ∀ x, lowS c x → getE r' x = getE r x
theorem AG.refl {c : Nat} {r : Ce} : AG c r r := fun _ _ => rfl
theorem AG.trans {c : Nat} {r r' r'' : Ce} (a : AG c r r') (b : AG c r' r'') : AG c r r'' := fun x h => (b x h).trans (a x h)
theorem AG.mono {c c' : Nat} {r r' : Ce} (h : c' ≤ c) (a : AG c r r') : AG c' r r' := fun x q => a x (low_mono h q)
theorem AG.set {c n : Nat} {l : Str} {r : Ce} {v : Cl} (h : sg l) (hn : c < n) : AG c r (setE r (nm l n) v) := fun x q => by
  rw [getE_set, if_neg (fun e => not_low h hn (by rw [← e]; exact q))]
/-! ## the machine's things and what is meant -/
def isL (cl : Cl) : Prop := ∃ v g e, v ≠ g ∧ cl = .thn v g (.leave (.name g) (.name v)) e
mutual
def Vl.R : Vl → Cl → Prop
  | .num n, cl => cl = .num n
  | .shut a x b e, cl => ∃ c r, cl = .code true a x (nm "K" (c + 1)) (nm "G" (c + 2)) (ser b (.name (nm "K" (c + 1))) (.name (nm "G" (c + 2))) (c + 2)).1 r ∧ En.R e [] r
  | .kept a fs, cl => ∃ c kt r, cl = .code false a (nm "V" (c + 1)) (nm "K" (c + 2)) (nm "G" (c + 3)) (.pass kt (.name (nm "V" (c + 1))) (.last (nm "V" (c + 4)) (.pass (.name (nm "K" (c + 2))) (.name (nm "V" (c + 4))) (.name (nm "G" (c + 3)))))) r ∧
      ((∃ w k', kt = .name w ∧ lowS c w ∧ getE r w = some k' ∧ ∃ c', Mf.Rs false fs k' c') ∨ ((∀ w, kt ≠ .name w) ∧ ∃ k', mean kt r = some k' ∧ Mf.Rs false fs k' c))
def En.R : En → List Str → Ce → Prop
  | .nil, _, _ => True
  | .cons x v e, sh, r => nmOk x ∧ (x ∈ sh ∨ ∃ cl, getE r x = some cl ∧ Vl.R v cl) ∧ En.R e (x :: sh) r
def Mf.R : Mf → Cl → Nat → Tm → Ce → Nat → Prop
  | .caller a p e, cl, c, kt, r, cb => cb ≤ c ∧ cl = .thn (nm "V" (cb + 1)) (nm "G" (cb + 2)) (ser p (.thn (nm "V" (cb + 3)) (nm "G" (cb + 4)) (.call a (.name (nm "V" (cb + 1))) (.name (nm "V" (cb + 3))) kt (.name (nm "G" (cb + 4))))) (.name (nm "G" (cb + 2))) (cb + 4)).1 r ∧ En.R e [] r
  | .adder a p e, cl, c, kt, r, cb => cb ≤ c ∧ cl = .thn (nm "V" (cb + 1)) (nm "G" (cb + 2)) (ser p (.thn (nm "V" (cb + 3)) (nm "G" (cb + 4)) (.plus a (.name (nm "V" (cb + 1))) (.name (nm "V" (cb + 3))) kt (.name (nm "G" (cb + 4))))) (.name (nm "G" (cb + 2))) (cb + 4)).1 r ∧ En.R e [] r
  | .given a v, cl, c, kt, r, cb => cb + 1 ≤ c ∧ cl = .thn (nm "V" (cb + 3)) (nm "G" (cb + 4)) (.call a (.name (nm "V" (cb + 1))) (.name (nm "V" (cb + 3))) kt (.name (nm "G" (cb + 4)))) r ∧ ∃ vc, getE r (nm "V" (cb + 1)) = some vc ∧ Vl.R v vc
  | .added a v, cl, c, kt, r, cb => cb + 1 ≤ c ∧ cl = .thn (nm "V" (cb + 3)) (nm "G" (cb + 4)) (.plus a (.name (nm "V" (cb + 1))) (.name (nm "V" (cb + 3))) kt (.name (nm "G" (cb + 4)))) r ∧ ∃ vc, getE r (nm "V" (cb + 1)) = some vc ∧ Vl.R v vc
  | .picker a p q e, cl, c, kt, r, cb => ∃ c0 c1, cb = c0 + 1 ∧ c0 + 3 ≤ c1 ∧ cb ≤ c ∧ kt = .name (nm "K" (c0 + 1)) ∧ cl = .thn (nm "V" (c0 + 2)) (nm "G" (c0 + 3)) (.pick a (.name (nm "V" (c0 + 2))) (ser p (.name (nm "K" (c0 + 1))) (.name (nm "G" (c0 + 3))) (c0 + 3)).1 (ser q (.name (nm "K" (c0 + 1))) (.name (nm "G" (c0 + 3))) c1).1) r ∧ En.R e [] r
  | .rnd, _, _, _, _, _ => False
def Mf.Rs (b : Bool) : List Mf → Cl → Nat → Prop
  | [], cl, _ => if b = true then cl = .halt else isL cl
  | f :: fs, cl, c => ∃ kt r cb, Mf.R f cl c kt r cb ∧
      ((∃ w k', kt = .name w ∧ lowS cb w ∧ getE r w = some k' ∧ ∃ c', Mf.Rs b fs k' c') ∨ ((∀ w, kt ≠ .name w) ∧ ∃ k', mean kt r = some k' ∧ Mf.Rs b fs k' cb))
end
/-- a term that means what is to be done -/
def KX (b : Bool) (fs : List Mf) (kt : Tm) (r : Ce) (c : Nat) : Prop :=
  (∃ w k', kt = .name w ∧ lowS c w ∧ getE r w = some k' ∧ ∃ c', Mf.Rs b fs k' c') ∨ ((∀ w, kt ≠ .name w) ∧ ∃ k', mean kt r = some k' ∧ Mf.Rs b fs k' c)
theorem KX.is {b : Bool} {fs : List Mf} {kt : Tm} {r : Ce} {c : Nat} (h : KX b fs kt r c) : ∃ k' c', mean kt r = some k' ∧ Mf.Rs b fs k' c' := by
  rcases h with ⟨w, k', rfl, _, h1, c', h2⟩ | ⟨_, k', h1, h2⟩
  · exact ⟨k', c', h1, h2⟩
  · exact ⟨k', c, h1, h2⟩
theorem En.R_look {x : Str} {v : Vl} {r : Ce} : ∀ {e : En} {sh : List Str}, En.R e sh r → x ∉ sh → look e x = some v → ∃ cl, getE r x = some cl ∧ Vl.R v cl
  | .nil, _, _, _, h => by simp [look] at h
  | .cons y w e, sh, hR, hx, h => by
    simp only [look] at h
    obtain ⟨h1, h2, h3⟩ := hR
    split at h
    · rename_i q
      subst q
      cases h
      rcases h2 with h2 | h2
      · exact absurd h2 hx
      · exact h2
    · rename_i q
      exact En.R_look h3 (fun z => by
        rcases List.mem_cons.mp z with z | z
        · exact q z.symm
        · exact hx z) h
theorem En.R_tr {r r' : Ce} : ∀ {e : En} {sh : List Str}, En.R e sh r → (∀ x, nmOk x → x ∉ sh → getE r' x = getE r x) → En.R e sh r'
  | .nil, _, _, _ => trivial
  | .cons y w e, sh, hR, h => by
    obtain ⟨h1, h2, h3⟩ := hR
    refine ⟨h1, ?_, En.R_tr h3 fun x hx hn => h x hx fun z => hn (List.mem_cons_of_mem _ z)⟩
    by_cases hy : y ∈ sh
    · exact .inl hy
    · rcases h2 with h2 | ⟨cl, h2, h4⟩
      · exact absurd h2 hy
      · exact .inr ⟨cl, by rw [h y h1 hy]; exact h2, h4⟩
theorem En.R_sh {r : Ce} : ∀ {e : En} {sh sh' : List Str}, En.R e sh r → (∀ x ∈ sh, x ∈ sh') → En.R e sh' r
  | .nil, _, _, _, _ => trivial
  | .cons y w e, sh, sh', hR, h => by
    obtain ⟨h1, h2, h3⟩ := hR
    refine ⟨h1, ?_, En.R_sh h3 fun x hx => by
      rcases List.mem_cons.mp hx with z | z
      · rw [z]; exact List.mem_cons_self
      · exact List.mem_cons_of_mem _ (h x z)⟩
    rcases h2 with h2 | h2
    · exact .inl (h _ h2)
    · exact .inr h2
theorem En.R_ag {r r' : Ce} {e : En} {c : Nat} (h : En.R e [] r) (a : AG c r r') : En.R e [] r' := En.R_tr h fun x hx _ => a x (.inl hx)
theorem Mf.Rs_mono {b : Bool} {c c' : Nat} (h : c ≤ c') : ∀ {fs : List Mf} {cl : Cl}, Mf.Rs b fs cl c → Mf.Rs b fs cl c'
  | [], _, q => q
  | f :: fs, cl, q => by
    obtain ⟨kt, r, cb, h1, h2⟩ := q
    refine ⟨kt, r, cb, ?_, h2⟩
    cases f with
    | caller a p e => exact ⟨Nat.le_trans h1.1 h, h1.2⟩
    | adder a p e => exact ⟨Nat.le_trans h1.1 h, h1.2⟩
    | given a v => exact ⟨Nat.le_trans h1.1 h, h1.2⟩
    | added a v => exact ⟨Nat.le_trans h1.1 h, h1.2⟩
    | picker a p q e => obtain ⟨c0, c1, g1, g2, g3, g4⟩ := h1; exact ⟨c0, c1, g1, g2, Nat.le_trans g3 h, g4⟩
    | rnd => exact h1.elim
theorem KX.mono {b : Bool} {c c' : Nat} {fs : List Mf} {kt : Tm} {r : Ce} (h : c ≤ c') (q : KX b fs kt r c) : KX b fs kt r c' := by
  rcases q with ⟨w, k', e, l, g⟩ | ⟨hn, k', e, g⟩
  · exact .inl ⟨w, k', e, low_mono h l, g⟩
  · exact .inr ⟨hn, k', e, Mf.Rs_mono h g⟩
theorem Mf.Rs_shape {b : Bool} {fs : List Mf} {cl : Cl} {c : Nat} (h : Mf.Rs b fs cl c) : cl = .halt ∨ ∃ w g t e, cl = .thn w g t e := by
  cases fs with
  | nil =>
    simp only [Mf.Rs] at h
    split at h
    · exact .inl h
    · obtain ⟨v, g, e, _, h⟩ := h; exact .inr ⟨_, _, _, _, h⟩
  | cons f fs =>
    obtain ⟨kt, r, cb, h1, _⟩ := h
    cases f with
    | caller a p e => exact .inr ⟨_, _, _, _, h1.2.1⟩
    | adder a p e => exact .inr ⟨_, _, _, _, h1.2.1⟩
    | given a v => exact .inr ⟨_, _, _, _, h1.2.1⟩
    | added a v => exact .inr ⟨_, _, _, _, h1.2.1⟩
    | picker a p q e => obtain ⟨c0, c1, g1, g2, g3, g4, g5, _⟩ := h1; exact .inr ⟨_, _, _, _, g5⟩
    | rnd => exact h1.elim
/-- another environment, alike at names up to c -/
theorem Mf.Rs_tr {b : Bool} : ∀ {fs : List Mf} {w g : Str} {t : Tm} {r r' : Ce} {c : Nat}, Mf.Rs b fs (.thn w g t r) c → AG c r r' → Mf.Rs b fs (.thn w g t r') c
  | [], w, g, t, r, r', c, h, a => by
    simp only [Mf.Rs] at h ⊢
    split at h
    · cases h
    · rename_i hb
      rw [if_neg hb]
      obtain ⟨v, g', e, h1, h2⟩ := h
      cases h2
      exact ⟨_, _, r', h1, rfl⟩
  | f :: fs, w, g, t, r, r', c, h, a => by
    obtain ⟨kt, r2, cb, h1, h2⟩ := h
    have key : r2 = r → cb ≤ c → ((∃ w k', kt = .name w ∧ lowS cb w ∧ getE r' w = some k' ∧ ∃ c', Mf.Rs b fs k' c') ∨ ((∀ w, kt ≠ .name w) ∧ ∃ k', mean kt r' = some k' ∧ Mf.Rs b fs k' cb)) := by
      intro e hcb
      subst e
      rcases h2 with ⟨w', k', e, l, g1, g2⟩ | ⟨hn, k', e, g1⟩
      · exact .inl ⟨w', k', e, l, by rw [a w' (low_mono hcb l)]; exact g1, g2⟩
      · rcases Mf.Rs_shape g1 with z | ⟨w', g', t', e', z⟩
        · subst z
          refine .inr ⟨hn, .halt, ?_, g1⟩
          cases kt <;> simp [mean] at e ⊢
          exact absurd rfl (hn _)
        · subst z
          cases kt <;> simp [mean] at e
          · exact absurd rfl (hn _)
          · obtain ⟨rfl, rfl, rfl, rfl⟩ := e
            exact .inr ⟨hn, _, rfl, Mf.Rs_tr g1 (a.mono hcb)⟩
    cases f with
    | caller a' p e =>
      obtain ⟨g1, g2, g3⟩ := h1
      cases g2
      exact ⟨kt, r', cb, ⟨g1, rfl, En.R_ag g3 a⟩, key rfl g1⟩
    | adder a' p e =>
      obtain ⟨g1, g2, g3⟩ := h1
      cases g2
      exact ⟨kt, r', cb, ⟨g1, rfl, En.R_ag g3 a⟩, key rfl g1⟩
    | given a' v =>
      obtain ⟨g1, g2, vc, g3, g4⟩ := h1
      cases g2
      exact ⟨kt, r', cb, ⟨g1, rfl, vc, by rw [a _ (low_nm sV g1)]; exact g3, g4⟩, key rfl (by omega)⟩
    | added a' v =>
      obtain ⟨g1, g2, vc, g3, g4⟩ := h1
      cases g2
      exact ⟨kt, r', cb, ⟨g1, rfl, vc, by rw [a _ (low_nm sV g1)]; exact g3, g4⟩, key rfl (by omega)⟩
    | picker a' p q e =>
      obtain ⟨c0, c1, g1, g2, g3, g4, g5, g6⟩ := h1
      cases g5
      exact ⟨kt, r', cb, ⟨c0, c1, g1, g2, g3, g4, rfl, En.R_ag g6 a⟩, key rfl g3⟩
    | rnd => exact h1.elim
theorem KX.tr {b : Bool} {fs : List Mf} {kt : Tm} {r r' : Ce} {c : Nat} (h : KX b fs kt r c) (a : AG c r r') : KX b fs kt r' c := by
  rcases h with ⟨w', k', e, l, g1, g2⟩ | ⟨hn, k', e, g1⟩
  · exact .inl ⟨w', k', e, l, by rw [a w' l]; exact g1, g2⟩
  · rcases Mf.Rs_shape g1 with z | ⟨w', g', t', e', z⟩
    · subst z
      refine .inr ⟨hn, .halt, ?_, g1⟩
      cases kt <;> simp [mean] at e ⊢
      exact absurd rfl (hn _)
    · subst z
      cases kt <;> simp [mean] at e
      · exact absurd rfl (hn _)
      · obtain ⟨rfl, rfl, rfl, rfl⟩ := e
        exact .inr ⟨hn, _, rfl, Mf.Rs_tr g1 a⟩
/-! what is beyond -/
inductive GR : List Mf → Cl → Nat → Prop
  | fin {c : Nat} : GR [] .fin c
  | name {gs rest : List Mf} {kt : Tm} {w : Str} {cl : Cl} {r : Ce} {cb c c' : Nat} : cb ≤ c → KX rest.isEmpty gs kt r cb → lowS cb w → getE r w = some cl → GR rest cl c' → GR (.rnd :: (gs ++ rest)) (.last (nm "V" (cb + 1)) (.pass kt (.name (nm "V" (cb + 1))) (.name w)) r) c
  | last {gs rest : List Mf} {kt gt : Tm} {cl : Cl} {r : Ce} {cb c : Nat} : cb ≤ c → KX rest.isEmpty gs kt r cb → (∀ w, gt ≠ .name w) → mean gt r = some cl → GR rest cl cb → GR (.rnd :: (gs ++ rest)) (.last (nm "V" (cb + 1)) (.pass kt (.name (nm "V" (cb + 1))) gt) r) c
def GX (rest : List Mf) (gt : Tm) (r : Ce) (c : Nat) : Prop :=
  (∃ w cl c', gt = .name w ∧ lowS c w ∧ getE r w = some cl ∧ GR rest cl c') ∨ ((∀ w, gt ≠ .name w) ∧ ∃ cl, mean gt r = some cl ∧ GR rest cl c)
theorem GX.is {rest : List Mf} {gt : Tm} {r : Ce} {c : Nat} (h : GX rest gt r c) : ∃ cl c', mean gt r = some cl ∧ GR rest cl c' := by
  rcases h with ⟨w, cl, c', rfl, _, h1, h2⟩ | ⟨_, cl, h1, h2⟩
  · exact ⟨cl, c', h1, h2⟩
  · exact ⟨cl, c, h1, h2⟩
theorem GR.mono {rest : List Mf} {cl : Cl} {c c' : Nat} (h : c ≤ c') (q : GR rest cl c) : GR rest cl c' := by
  cases q with
  | fin => exact .fin
  | name a b d e f => exact .name (by omega) b d e f
  | last a b d e f => exact .last (by omega) b d e f
theorem GX.mono {rest : List Mf} {gt : Tm} {r : Ce} {c c' : Nat} (h : c ≤ c') (q : GX rest gt r c) : GX rest gt r c' := by
  rcases q with ⟨w, cl, c2, e, l, g⟩ | ⟨hn, cl, e, g⟩
  · exact .inl ⟨w, cl, c2, e, low_mono h l, g⟩
  · exact .inr ⟨hn, cl, e, g.mono h⟩
theorem GR.tr {rest : List Mf} {cl : Cl} {c : Nat} (h : GR rest cl c) : ∀ {v : Str} {t : Tm} {r r' : Ce}, cl = .last v t r → AG c r r' → GR rest (.last v t r') c := by
  induction h with
  | fin => intro v t r r' e; cases e
  | name a b d e f ih =>
    intro v t r r' q ag
    cases q
    exact .name a (b.tr (ag.mono a)) d (by rw [ag _ (low_mono a d)]; exact e) f
  | @last gs rest kt gt cl0 r0 cb c a b d e f ih =>
    intro v t r r' q ag
    cases q
    cases f with
    | fin =>
      refine .last a (b.tr (ag.mono a)) d ?_ .fin
      cases gt <;> simp [mean] at e ⊢
      exact absurd rfl (d _)
    | name a' b' d' e' f' =>
      cases gt <;> simp [mean] at e
      · exact absurd rfl (d _)
      · obtain ⟨rfl, rfl, rfl⟩ := e
        exact .last a (b.tr (ag.mono a)) d rfl (ih rfl (ag.mono a))
    | last a' b' d' e' f' =>
      cases gt <;> simp [mean] at e
      · exact absurd rfl (d _)
      · obtain ⟨rfl, rfl, rfl⟩ := e
        exact .last a (b.tr (ag.mono a)) d rfl (ih rfl (ag.mono a))
theorem GR.shape {rest : List Mf} {cl : Cl} {c : Nat} (h : GR rest cl c) : (rest = [] ∧ cl = .fin) ∨ ∃ gs rest' v t r, rest = .rnd :: (gs ++ rest') ∧ cl = .last v t r := by
  cases h with
  | fin => exact .inl ⟨rfl, rfl⟩
  | name a b d e f => exact .inr ⟨_, _, _, _, _, rfl, rfl⟩
  | last a b d e f => exact .inr ⟨_, _, _, _, _, rfl, rfl⟩
theorem GX.tr {rest : List Mf} {gt : Tm} {r r' : Ce} {c : Nat} (h : GX rest gt r c) (a : AG c r r') : GX rest gt r' c := by
  rcases h with ⟨w, cl, c', e, l, g1, g2⟩ | ⟨hn, cl, e, g⟩
  · exact .inl ⟨w, cl, c', e, l, by rw [a w l]; exact g1, g2⟩
  · rcases g.shape with ⟨z1, z2⟩ | ⟨gs, rest', v, t, r0, z1, z2⟩
    · subst z2
      refine .inr ⟨hn, .fin, ?_, g⟩
      cases gt <;> simp [mean] at e ⊢
      exact absurd rfl (hn _)
    · subst z2
      cases gt <;> simp [mean] at e
      · exact absurd rfl (hn _)
      · obtain ⟨rfl, rfl, rfl⟩ := e
        exact .inr ⟨hn, _, rfl, g.tr rfl a⟩
end Cb
namespace Cb
open PySem PySem.Spec PyProof.Rows L2
/-! ## the plain term goes along with the machine -/
def Rel : Sm → Gn → Prop
  | .go p e fs, .at_ t r => ∃ kt gt c gs rest, fs = gs ++ rest ∧ t = (ser p kt gt c).1 ∧ En.R e [] r ∧ KX rest.isEmpty gs kt r c ∧ GX rest gt r c
  | .go _ _ _, .told _ => False
  | .have v fs, g => ∃ kc vc gc gs rest c c', fs = gs ++ rest ∧ Vl.R v vc ∧ Mf.Rs rest.isEmpty gs kc c ∧ GR rest gc c' ∧ goi kc vc gc = some g
theorem Rs_norn {b : Bool} : ∀ {fs : List Mf} {cl : Cl} {c : Nat}, Mf.Rs b fs cl c → ∀ f ∈ fs, f ≠ .rnd
  | [], _, _, _, f, h => by simp at h
  | g :: fs, cl, c, hR, f, h => by
    obtain ⟨kt, r, cb, h1, h2⟩ := hR
    rcases List.mem_cons.mp h with q | q
    · subst q
      intro e
      subst e
      exact h1.elim
    · rcases h2 with ⟨w', k', e, l, g1, c', g2⟩ | ⟨hn, k', e, g1⟩
      · exact Rs_norn g2 f q
      · exact Rs_norn g1 f q
theorem rixm_none' : ∀ {gs : List Mf}, (∀ f ∈ gs, f ≠ .rnd) → rixm gs = none
  | [], _ => rfl
  | f :: gs, h => by
    have := rixm_none' (gs := gs) fun g hg => h g (List.mem_cons_of_mem _ hg)
    have h1 := h f List.mem_cons_self
    cases f <;> simp_all [rixm]
theorem rixm_at : ∀ {gs rest : List Mf}, (∀ f ∈ gs, f ≠ .rnd) → rixm (gs ++ .rnd :: rest) = some gs.length
  | [], _, _ => rfl
  | f :: gs, rest, h => by
    have := rixm_at (gs := gs) (rest := rest) fun g hg => h g (List.mem_cons_of_mem _ hg)
    have h1 := h f List.mem_cons_self
    cases f <;> simp_all [rixm]
theorem goi_is {b : Bool} {fs : List Mf} {kc : Cl} {c : Nat} (h : Mf.Rs b fs kc c) (v g : Cl) : ∃ z, goi kc v g = some z := by
  rcases Mf.Rs_shape h with z | ⟨w, g', t, e, z⟩ <;> subst z <;> exact ⟨_, rfl⟩
theorem ans_R {v : Vl} {cl : Cl} (h : Vl.R v cl) : ansC cl = some (ansV v) := by
  cases v with
  | num n =>
    have h : cl = .num n := h
    subst h; rfl
  | shut a x b e => obtain ⟨c, r, h1, _⟩ := h; subst h1; rfl
  | kept a fs => obtain ⟨c, kt, r, h1, _⟩ := h; subst h1; rfl
theorem pass_run {t n : Nat} {k p g : Tm} {r : Ce} {kc vc gc : Cl} {z : Gn} (h1 : mean k r = some kc) (h2 : mean p r = some vc) (h3 : mean g r = some gc) (h4 : goi kc vc gc = some z) : prun (t + 1) n (.pass k p g) r = prunG t n z := by
  have e : gon (.pass k p g) r = some (.move z) := by simp [gon, h1, h2, h3, h4]
  unfold prun
  rw [e]
  cases z <;> rfl
theorem move_run {t n : Nat} {tm tm' : Tm} {r r' : Ce} (h : gon tm r = some (.move (.at_ tm' r'))) : prun (t + 1) n tm r = prun t n tm' r' := by
  conv => lhs; unfold prun
  rw [h]
theorem stuck_run {t n : Nat} {tm : Tm} {r : Ce} {a : Int} (h : gon tm r = some (.stuck a)) : prun (t + 1) n tm r = some (.stuck a) := by
  unfold prun
  rw [h]
theorem step_run {t n : Nat} {tm : Tm} {r : Ce} {z : Gn} (h : gon tm r = some (.step z)) : prun (t + 1) n tm r = match n with | 0 => some .dry | n + 1 => prunG t n z := by
  unfold prun
  rw [h]
  cases n with
  | zero => rfl
  | succ n => cases z <;> rfl
theorem look_R {x : Str} {v : Vl} {r : Ce} {e : En} (h : En.R e [] r) (hl : look e x = some v) : ∃ cl, getE r x = some cl ∧ Vl.R v cl := En.R_look h (by simp) hl
/-- one more binding of a piece's name -/
theorem R_cons {e : En} {r r1 : Ce} {x : Str} {v : Vl} {cl : Cl} {c : Nat} (hx : nmOk x) (h : En.R e [] r) (a : AG c r r1) (hv : Vl.R v cl) : En.R (.cons x v e) [] (setE r1 x cl) := by
  refine ⟨hx, .inr ⟨cl, by rw [getE_set]; simp, hv⟩, ?_⟩
  refine En.R_tr (En.R_sh h (by simp)) fun y hy hn => ?_
  have : y ≠ x := fun q => hn (by rw [q]; exact List.mem_cons_self)
  rw [getE_set, if_neg this]
  exact a y (.inl hy)
theorem isEmpty_app (gs rest : List Mf) : (Mf.rnd :: (gs ++ rest)).isEmpty = false := rfl
/-- a value is handed to the nearest frame -/
theorem rel_frame {v : Vl} {f : Mf} {gs rest : List Mf} {kc vc gc : Cl} {c c' : Nat} (hv : Vl.R v vc) (hf : Mf.Rs rest.isEmpty (f :: gs) kc c) (hg : GR rest gc c') :
    (∀ a p e, f = .caller a p e → ∃ z, goi kc vc gc = some z ∧ Rel (.go p e (.given a v :: (gs ++ rest))) z) ∧
    (∀ a p e, f = .adder a p e → ∃ z, goi kc vc gc = some z ∧ Rel (.go p e (.added a v :: (gs ++ rest))) z) ∧
    (∀ a w, f = .given a w → ∃ kt r cb wc kc2, goi kc vc gc = some (.at_ (.call a (.name (nm "V" (cb + 1))) (.name (nm "V" (cb + 3))) kt (.name (nm "G" (cb + 4)))) r) ∧ Vl.R w wc ∧ getE r (nm "V" (cb + 1)) = some wc ∧ getE r (nm "V" (cb + 3)) = some vc ∧ getE r (nm "G" (cb + 4)) = some gc ∧ mean kt r = some kc2 ∧ ∃ c2, Mf.Rs rest.isEmpty gs kc2 c2) ∧
    (∀ a w, f = .added a w → ∃ kt r cb wc kc2, goi kc vc gc = some (.at_ (.plus a (.name (nm "V" (cb + 1))) (.name (nm "V" (cb + 3))) kt (.name (nm "G" (cb + 4)))) r) ∧ Vl.R w wc ∧ getE r (nm "V" (cb + 1)) = some wc ∧ getE r (nm "V" (cb + 3)) = some vc ∧ getE r (nm "G" (cb + 4)) = some gc ∧ mean kt r = some kc2 ∧ ∃ c2, Mf.Rs rest.isEmpty gs kc2 c2) ∧
    (∀ a p q e, f = .picker a p q e → ∃ w t u r, goi kc vc gc = some (.at_ (.pick a (.name w) t u) r) ∧ getE r w = some vc ∧ Rel (.go p e (gs ++ rest)) (.at_ t r) ∧ Rel (.go q e (gs ++ rest)) (.at_ u r)) := by
  obtain ⟨kt, r, cb, h1, h2⟩ := hf
  have hk : KX rest.isEmpty gs kt r cb := h2
  refine ⟨fun a p e ef => ?_, fun a p e ef => ?_, fun a w ef => ?_, fun a w ef => ?_, fun a p q e ef => ?_⟩
  · subst ef
    obtain ⟨g1, g2, g3⟩ := h1
    subst g2
    refine ⟨_, rfl, ?_⟩
    have ag : AG cb r (setE (setE r (nm "V" (cb + 1)) vc) (nm "G" (cb + 2)) gc) := (AG.set sV (by omega)).trans (AG.set sG (by omega))
    refine ⟨_, _, cb + 4, .given a v :: gs, rest, rfl, rfl, En.R_ag g3 ag, ?_, ?_⟩
    · refine .inr ⟨(fun w z => by cases z), _, rfl, kt, _, cb, ⟨by omega, rfl, vc, ?_, hv⟩, hk.tr ag⟩
      rw [getE_set, if_neg (nm_ne sV sG (by omega)), getE_set, if_pos rfl]
    · exact .inl ⟨_, gc, c', rfl, low_nm sG (by omega), by rw [getE_set, if_pos rfl], hg⟩
  · subst ef
    obtain ⟨g1, g2, g3⟩ := h1
    subst g2
    refine ⟨_, rfl, ?_⟩
    have ag : AG cb r (setE (setE r (nm "V" (cb + 1)) vc) (nm "G" (cb + 2)) gc) := (AG.set sV (by omega)).trans (AG.set sG (by omega))
    refine ⟨_, _, cb + 4, .added a v :: gs, rest, rfl, rfl, En.R_ag g3 ag, ?_, ?_⟩
    · refine .inr ⟨(fun w z => by cases z), _, rfl, kt, _, cb, ⟨by omega, rfl, vc, ?_, hv⟩, hk.tr ag⟩
      rw [getE_set, if_neg (nm_ne sV sG (by omega)), getE_set, if_pos rfl]
    · exact .inl ⟨_, gc, c', rfl, low_nm sG (by omega), by rw [getE_set, if_pos rfl], hg⟩
  · subst ef
    obtain ⟨g1, g2, wc, g3, g4⟩ := h1
    subst g2
    have ag : AG cb r (setE (setE r (nm "V" (cb + 3)) vc) (nm "G" (cb + 4)) gc) := (AG.set sV (by omega)).trans (AG.set sG (by omega))
    obtain ⟨kc2, c2, h3, h4⟩ := (hk.tr ag).is
    refine ⟨kt, _, cb, wc, kc2, rfl, g4, ?_, ?_, ?_, h3, c2, h4⟩
    · rw [getE_set, if_neg (nm_ne sV sG (by omega)), getE_set, if_neg (nm_ne sV sV (by omega))]; exact g3
    · rw [getE_set, if_neg (nm_ne sV sG (by omega)), getE_set, if_pos rfl]
    · rw [getE_set, if_pos rfl]
  · subst ef
    obtain ⟨g1, g2, wc, g3, g4⟩ := h1
    subst g2
    have ag : AG cb r (setE (setE r (nm "V" (cb + 3)) vc) (nm "G" (cb + 4)) gc) := (AG.set sV (by omega)).trans (AG.set sG (by omega))
    obtain ⟨kc2, c2, h3, h4⟩ := (hk.tr ag).is
    refine ⟨kt, _, cb, wc, kc2, rfl, g4, ?_, ?_, ?_, h3, c2, h4⟩
    · rw [getE_set, if_neg (nm_ne sV sG (by omega)), getE_set, if_neg (nm_ne sV sV (by omega))]; exact g3
    · rw [getE_set, if_neg (nm_ne sV sG (by omega)), getE_set, if_pos rfl]
    · rw [getE_set, if_pos rfl]
  · subst ef
    obtain ⟨c0, c1, g1, g2, g3, g4, g5, g6⟩ := h1
    subst g5
    subst g4
    have ag : AG cb r (setE (setE r (nm "V" (c0 + 2)) vc) (nm "G" (c0 + 3)) gc) := (AG.set sV (by omega)).trans (AG.set sG (by omega))
    have hk2 := hk.tr ag
    have hg2 : ∀ c2, c0 + 3 ≤ c2 → GX rest (.name (nm "G" (c0 + 3))) (setE (setE r (nm "V" (c0 + 2)) vc) (nm "G" (c0 + 3)) gc) c2 := fun c2 h => .inl ⟨_, gc, c', rfl, low_nm sG h, by rw [getE_set, if_pos rfl], hg⟩
    refine ⟨_, _, _, _, rfl, ?_, ⟨_, _, c0 + 3, gs, rest, rfl, rfl, En.R_ag g6 ag, hk2.mono (by omega), hg2 _ (Nat.le_refl _)⟩, ⟨_, _, c1, gs, rest, rfl, rfl, En.R_ag g6 ag, hk2.mono (by omega), hg2 _ g2⟩⟩
    rw [getE_set, if_neg (nm_ne sV sG (by omega)), getE_set, if_pos rfl]
theorem GR.inv {tl : List Mf} {cl : Cl} {c : Nat} (h : GR (.rnd :: tl) cl c) : ∃ gs rest kt gt r cb, tl = gs ++ rest ∧ cl = .last (nm "V" (cb + 1)) (.pass kt (.name (nm "V" (cb + 1))) gt) r ∧ KX rest.isEmpty gs kt r cb ∧ GX rest gt r cb := by
  generalize he : (Mf.rnd :: tl) = fs at h
  cases h with
  | fin => cases he
  | name a b d e f => exact ⟨_, _, _, _, _, _, (List.cons.inj he).2, rfl, b, .inl ⟨_, _, _, rfl, d, e, f⟩⟩
  | last a b d e f => exact ⟨_, _, _, _, _, _, (List.cons.inj he).2, rfl, b, .inr ⟨d, _, e, f⟩⟩
theorem R_num {v : Vl} {cl : Cl} (h : Vl.R v cl) : (∃ n, v = .num n ∧ cl = .num n) ∨ ((∀ n, v ≠ .num n) ∧ ∃ fn a w k g t e, cl = .code fn a w k g t e) := by
  cases v with
  | num n => exact .inl ⟨n, rfl, h⟩
  | shut a x b e => obtain ⟨c, r, h1, _⟩ := h; exact .inr ⟨(fun n z => by cases z), _, _, _, _, _, _, _, h1⟩
  | kept a fs => obtain ⟨c, kt, r, h1, _⟩ := h; exact .inr ⟨(fun n z => by cases z), _, _, _, _, _, _, _, h1⟩
theorem plain_sim {Q : List Str → Pc → Prop} (hQ : QC Q) (hc : ∀ sc p, Q sc p → cd p ≤ 41) : ∀ (t n : Nat) (s : Sm) (z : Gn), s.ok Q → mu s + 126 * n < t → Rel s z → prunG (3 * t) n z = some (resM t n s)
  | 0, _, _, _, _, h, _ => by omega
  | t + 1, n, s, z, ho, h, hr => by
    have hs := sim hQ s ho
    have hmv := @move_mu s
    -- what is left behind a move, a step
    have onm : ∀ s', mv s = .move s' → ∀ z', Rel s' z' → prunG (3 * t) n z' = some (resM (t + 1) n s) := fun s' hm z' hz => by
      rw [hm] at hs
      have e : resM (t + 1) n s = resM t n s' := by conv => lhs; unfold resM
                                                    rw [hm]
      rw [e]
      have := hmv hm
      exact plain_sim hQ hc t n s' z' hs.2 (by omega) hz
    have ons : ∀ s' m, mv s = .step s' → n = m + 1 → ∀ z', Rel s' z' → prunG (3 * t) m z' = some (resM (t + 1) n s) := fun s' m hm hn z' hz => by
      rw [hm] at hs
      subst hn
      have e : resM (t + 1) (m + 1) s = resM t m s' := by conv => lhs; unfold resM
                                                          rw [hm]
      rw [e]
      have := mu_le (shal_of hc hs.2)
      exact plain_sim hQ hc t m s' z' hs.2 (by omega) hz
    have on0 : ∀ s', mv s = .step s' → n = 0 → resM (t + 1) n s = .dry := fun s' hm hn => by
      subst hn
      unfold resM
      rw [hm]
    have onk : ∀ a, mv s = .stuck a → resM (t + 1) n s = .stuck a := fun a hm => by
      unfold resM
      rw [hm]
    have more : ∀ {m z'} {r : Rs}, prunG (3 * t) m z' = some r → prunG (3 * t + 1) m z' = some r ∧ prunG (3 * t + 2) m z' = some r ∧ prunG (3 * t + 3) m z' = some r := fun {m z' r} q => by
      cases z' with
      | told v => exact ⟨q, q, q⟩
      | at_ tm r => exact ⟨prun_more q (by omega), prun_more q (by omega), prun_more q (by omega)⟩
    have e3 : 3 * (t + 1) = 3 * t + 3 := by omega
    rw [e3]
    -- behind one step
    have one : ∀ {tm r z'} (s' : Sm), gon tm r = some (.step z') → mv s = .step s' → Rel s' z' → prun (3 * t + 3) n tm r = some (resM (t + 1) n s) := fun {tm r z'} s' hg hm hz => by
      rw [step_run (t := 3 * t + 2) hg]
      cases n with
      | zero => rw [on0 s' hm rfl]
      | succ m => exact (more (ons s' m hm rfl z' hz)).2.1
    cases s with
    | «have» v fs =>
      obtain ⟨kc, vc, gc, gs, rest, c, c', efs, hv, hk, hg, hz⟩ := hr
      cases gs with
      | nil =>
        simp only [List.nil_append] at efs
        subst efs
        rcases hg.shape with ⟨z1, z2⟩ | ⟨gs, rest', v', t', r', z1, z2⟩
        · subst z1
          have hk : kc = .halt := hk
          subst hk
          cases hz
          unfold resM
          simp only [mv, prunG]
          rw [ans_R hv]
        · subst z1
          have hk : isL kc := hk
          obtain ⟨x, g, e, hne, rfl⟩ := hk
          cases hz
          have hm : mv (.have v (.rnd :: (gs ++ rest'))) = .step (.have v (gs ++ rest')) := rfl
          have m1 : mean (.name g) (setE (setE e x vc) g gc) = some gc := by simp [mean, getE_set]
          have m2 : mean (.name x) (setE (setE e x vc) g gc) = some vc := by simp [mean, getE_set, hne]
          generalize setE (setE e x vc) g gc = E at m1 m2
          show prun (3 * t + 3) n _ _ = _
          obtain ⟨gs2, rest2, kt, gt, r, cb, etl, ecl, hk2, hg2⟩ := hg.inv
          subst ecl
          have ag : AG cb r (setE r (nm "V" (cb + 1)) vc) := AG.set sV (by omega)
          obtain ⟨kc2, ck, h3, h4⟩ := (hk2.tr ag).is
          obtain ⟨gc2, cg, h5, h6⟩ := (hg2.tr ag).is
          obtain ⟨z', hz'⟩ := goi_is h4 vc gc2
          have rel : Rel (.have v (gs ++ rest')) z' := ⟨kc2, vc, gc2, gs2, rest2, ck, cg, etl, hv, h4, h6, hz'⟩
          have eg : gon (.leave (.name g) (.name x)) E = some (.step (.at_ (.pass kt (.name (nm "V" (cb + 1))) gt) (setE r (nm "V" (cb + 1)) vc))) := by simp [gon, m1, m2]
          rw [step_run (t := 3 * t + 2) eg]
          cases n with
          | zero => rw [on0 _ hm rfl]
          | succ m =>
            show prun (3 * t + 1 + 1) m _ _ = _
            rw [pass_run h3 (by simp [mean, getE_set]) h5 hz']
            exact (more (ons _ m hm rfl z' rel)).1
      | cons f gs =>
        subst efs
        obtain ⟨f1, f2, f3, f4, f5⟩ := rel_frame hv hk hg
        cases f with
        | rnd => exact absurd rfl (Rs_norn hk .rnd List.mem_cons_self)
        | caller a p e =>
          obtain ⟨z', h1, h2⟩ := f1 a p e rfl
          rw [hz] at h1
          cases h1
          exact (more (onm _ rfl z h2)).2.2
        | adder a p e =>
          obtain ⟨z', h1, h2⟩ := f2 a p e rfl
          rw [hz] at h1
          cases h1
          exact (more (onm _ rfl z h2)).2.2
        | given a w =>
          obtain ⟨kt, r, cb, wc, kc2, h1, h2, h3, h4, h5, h6, c2, h7⟩ := f3 a w rfl
          rw [hz] at h1
          cases h1
          show prun (3 * t + 3) n _ _ = _
          have m1 : mean (.name (nm "V" (cb + 1))) r = some wc := h3
          have m2 : mean (.name (nm "V" (cb + 3))) r = some vc := h4
          have m3 : mean (.name (nm "G" (cb + 4))) r = some gc := h5
          cases w with
          | num i =>
            have h2 : wc = .num i := h2
            subst h2
            have eg : gon (.call a (.name (nm "V" (cb + 1))) (.name (nm "V" (cb + 3))) kt (.name (nm "G" (cb + 4)))) r = some (.stuck a) := by simp [gon, m1]
            rw [stuck_run eg, onk a rfl]
          | shut i x b e =>
            obtain ⟨d, r2, hw, hR⟩ := h2
            subst hw
            have hx : nmOk x ∧ e.ok Q := by
              have := ho.2.1
              exact ⟨this.1.1, this.2⟩
            have eg : gon (.call a (.name (nm "V" (cb + 1))) (.name (nm "V" (cb + 3))) kt (.name (nm "G" (cb + 4)))) r = some (.step (.at_ (ser b (.name (nm "K" (d + 1))) (.name (nm "G" (d + 2))) (d + 2)).1 (setE (setE (setE r2 x vc) (nm "K" (d + 1)) kc2) (nm "G" (d + 2)) gc))) := by simp [gon, m1, m2, m3, h6]
            refine one _ eg rfl ?_
            have ag : AG d (setE r2 x vc) (setE (setE (setE r2 x vc) (nm "K" (d + 1)) kc2) (nm "G" (d + 2)) gc) := (AG.set sK (by omega)).trans (AG.set sG (by omega))
            refine ⟨_, _, d + 2, gs, rest, rfl, rfl, En.R_ag (R_cons hx.1 hR (AG.refl (c := d)) hv) ag, ?_, ?_⟩
            · exact .inl ⟨_, kc2, rfl, low_nm sK (by omega), by rw [getE_set, if_neg (nm_ne sK sG (by omega)), getE_set, if_pos rfl], c2, h7⟩
            · exact .inl ⟨_, gc, c', rfl, low_nm sG (by omega), by rw [getE_set, if_pos rfl], hg⟩
          | kept i gs2 =>
            obtain ⟨d, kt2, r2, hw, hR⟩ := h2
            subst hw
            have hR : KX false gs2 kt2 r2 d := hR
            have eg : gon (.call a (.name (nm "V" (cb + 1))) (.name (nm "V" (cb + 3))) kt (.name (nm "G" (cb + 4)))) r = some (.step (.at_ (.pass kt2 (.name (nm "V" (d + 1))) (.last (nm "V" (d + 4)) (.pass (.name (nm "K" (d + 2))) (.name (nm "V" (d + 4))) (.name (nm "G" (d + 3)))))) (setE (setE (setE r2 (nm "V" (d + 1)) vc) (nm "K" (d + 2)) kc2) (nm "G" (d + 3)) gc))) := by simp [gon, m1, m2, m3, h6]
            have ag : AG d r2 (setE (setE (setE r2 (nm "V" (d + 1)) vc) (nm "K" (d + 2)) kc2) (nm "G" (d + 3)) gc) := (AG.set sV (by omega)).trans ((AG.set sK (by omega)).trans (AG.set sG (by omega)))
            have q1 : getE (setE (setE (setE r2 (nm "V" (d + 1)) vc) (nm "K" (d + 2)) kc2) (nm "G" (d + 3)) gc) (nm "V" (d + 1)) = some vc := by rw [getE_set, if_neg (nm_ne sV sG (by omega)), getE_set, if_neg (nm_ne sV sK (by omega)), getE_set, if_pos rfl]
            have q2 : getE (setE (setE (setE r2 (nm "V" (d + 1)) vc) (nm "K" (d + 2)) kc2) (nm "G" (d + 3)) gc) (nm "K" (d + 2)) = some kc2 := by rw [getE_set, if_neg (nm_ne sK sG (by omega)), getE_set, if_pos rfl]
            have q3 : getE (setE (setE (setE r2 (nm "V" (d + 1)) vc) (nm "K" (d + 2)) kc2) (nm "G" (d + 3)) gc) (nm "G" (d + 3)) = some gc := by rw [getE_set, if_pos rfl]
            obtain ⟨kc3, ck, h8, h9⟩ := (hR.tr ag).is
            generalize setE (setE (setE r2 (nm "V" (d + 1)) vc) (nm "K" (d + 2)) kc2) (nm "G" (d + 3)) gc = E at eg ag q1 q2 q3 h8
            have hg3 : GR (.rnd :: (gs ++ rest)) (.last (nm "V" (d + 4)) (.pass (.name (nm "K" (d + 2))) (.name (nm "V" (d + 4))) (.name (nm "G" (d + 3)))) E) (d + 3) := GR.name (cb := d + 3) (Nat.le_refl _) (.inl ⟨_, kc2, rfl, low_nm sK (by omega), q2, c2, h7⟩) (low_nm sG (by omega)) q3 hg
            obtain ⟨z', hz'⟩ := goi_is h9 vc (.last (nm "V" (d + 4)) (.pass (.name (nm "K" (d + 2))) (.name (nm "V" (d + 4))) (.name (nm "G" (d + 3)))) E)
            have rel : Rel (.have v (gs2 ++ .rnd :: (gs ++ rest))) z' := ⟨kc3, vc, _, gs2, .rnd :: (gs ++ rest), ck, d + 3, rfl, hv, h9, hg3, hz'⟩
            rw [step_run (t := 3 * t + 2) eg]
            cases n with
            | zero => rw [on0 (.have v (gs2 ++ .rnd :: (gs ++ rest))) rfl rfl]
            | succ m =>
              show prun (3 * t + 1 + 1) m _ _ = _
              rw [pass_run h8 (show mean (.name (nm "V" (d + 1))) E = some vc from q1) rfl hz']
              exact (more (ons (.have v (gs2 ++ .rnd :: (gs ++ rest))) m rfl rfl z' rel)).1
        | added a w =>
          obtain ⟨kt, r, cb, wc, kc2, h1, h2, h3, h4, h5, h6, c2, h7⟩ := f4 a w rfl
          rw [hz] at h1
          cases h1
          show prun (3 * t + 3) n _ _ = _
          have m1 : mean (.name (nm "V" (cb + 1))) r = some wc := h3
          have m2 : mean (.name (nm "V" (cb + 3))) r = some vc := h4
          have m3 : mean (.name (nm "G" (cb + 4))) r = some gc := h5
          rcases R_num h2 with ⟨i, rfl, rfl⟩ | ⟨hw, fn, a1, w1, k1, g1, t1, e1, rfl⟩
          · rcases R_num hv with ⟨j, rfl, rfl⟩ | ⟨hv2, fn, a1, w1, k1, g1, t1, e1, rfl⟩
            · obtain ⟨z', hz'⟩ := goi_is h7 (.num (i + j)) gc
              have eg : gon (.plus a (.name (nm "V" (cb + 1))) (.name (nm "V" (cb + 3))) kt (.name (nm "G" (cb + 4)))) r = some (.step z') := by simp [gon, m1, m2, m3, h6, hz']
              exact one (.have (.num (i + j)) (gs ++ rest)) eg rfl ⟨kc2, _, gc, gs, rest, c2, c', rfl, rfl, h7, hg, hz'⟩
            · have eg : gon (.plus a (.name (nm "V" (cb + 1))) (.name (nm "V" (cb + 3))) kt (.name (nm "G" (cb + 4)))) r = some (.stuck a) := by simp [gon, m1, m2]
              rw [stuck_run eg, onk a (by cases v <;> first | rfl | exact absurd rfl (hv2 _))]
          · have eg : gon (.plus a (.name (nm "V" (cb + 1))) (.name (nm "V" (cb + 3))) kt (.name (nm "G" (cb + 4)))) r = some (.stuck a) := by simp [gon, m1, m2]
            rw [stuck_run eg, onk a (by cases w <;> first | (cases v <;> rfl) | exact absurd rfl (hw _))]
        | picker a p q e =>
          obtain ⟨w, t1, u1, r, h1, h2, h3, h4⟩ := f5 a p q e rfl
          rw [hz] at h1
          cases h1
          show prun (3 * t + 3) n _ _ = _
          have m1 : mean (.name w) r = some vc := h2
          rcases R_num hv with ⟨j, rfl, rfl⟩ | ⟨hv2, fn, a1, w1, k1, g1, t2, e1, rfl⟩
          · have eg : gon (.pick a (.name w) t1 u1) r = some (.step (.at_ (if j = 0 then t1 else u1) r)) := by simp [gon, m1]
            refine one (.go (if j = 0 then p else q) e (gs ++ rest)) eg rfl ?_
            split
            · exact h3
            · exact h4
          · have eg : gon (.pick a (.name w) t1 u1) r = some (.stuck a) := by simp [gon, m1]
            rw [stuck_run eg, onk a (by cases v <;> first | rfl | exact absurd rfl (hv2 _))]
    | go p e fs =>
      cases z with
      | told v => exact hr.elim
      | at_ T r =>
      obtain ⟨kt, gt, c, gs, rest, efs, eT, hR, hk, hg⟩ := hr
      subst efs
      subst eT
      show prun (3 * t + 3) n _ _ = _
      obtain ⟨kc, ck, hk1, hk2⟩ := hk.is
      obtain ⟨gc, cg, hg1, hg2⟩ := hg.is
      cases p with
      | num i =>
        obtain ⟨z', hz'⟩ := goi_is hk2 (.num i) gc
        show prun (3 * t + 2 + 1) n (.pass kt (.num i) gt) r = _
        rw [pass_run hk1 rfl hg1 hz']
        exact (more (onm (.have (.num i) (gs ++ rest)) rfl z' ⟨kc, _, gc, gs, rest, ck, cg, rfl, rfl, hk2, hg2, hz'⟩)).2.1
      | name x =>
        obtain ⟨v, hl, _⟩ := look_dom ho.2.1 (hQ.name ho.1)
        obtain ⟨vc, hl1, hl2⟩ := look_R hR hl
        obtain ⟨z', hz'⟩ := goi_is hk2 vc gc
        show prun (3 * t + 2 + 1) n (.pass kt (.name x) gt) r = _
        rw [pass_run hk1 (show mean (.name x) r = some vc from hl1) hg1 hz']
        have hm : mv (.go (.name x) e (gs ++ rest)) = .move (.have v (gs ++ rest)) := by simp [mv, hl]
        exact (more (onm _ hm z' ⟨kc, vc, gc, gs, rest, ck, cg, rfl, hl2, hk2, hg2, hz'⟩)).2.1
      | fn a x b =>
        obtain ⟨z', hz'⟩ := goi_is hk2 (.code true a x (nm "K" (c + 1)) (nm "G" (c + 2)) (ser b (.name (nm "K" (c + 1))) (.name (nm "G" (c + 2))) (c + 2)).1 r) gc
        have eg : gon (ser (.fn a x b) kt gt c).1 r = some (.step z') := by
          have mc : mean (.code true a x (nm "K" (c + 1)) (nm "G" (c + 2)) (ser b (.name (nm "K" (c + 1))) (.name (nm "G" (c + 2))) (c + 2)).1) r = some (.code true a x (nm "K" (c + 1)) (nm "G" (c + 2)) (ser b (.name (nm "K" (c + 1))) (.name (nm "G" (c + 2))) (c + 2)).1 r) := rfl
          simp [ser, gon, mc, hk1, hg1, hz']
        exact one (.have (.shut a x b e) (gs ++ rest)) eg rfl ⟨kc, _, gc, gs, rest, ck, cg, rfl, ⟨c, r, rfl, hR⟩, hk2, hg2, hz'⟩
      | call a f g =>
        have hle := ser_le g (.thn (nm "V" (c + 3)) (nm "G" (c + 4)) (.call a (.name (nm "V" (c + 1))) (.name (nm "V" (c + 3))) kt (.name (nm "G" (c + 4))))) (.name (nm "G" (c + 2))) (c + 4)
        refine (more (z' := .at_ (ser (.call a f g) kt gt c).1 r) (onm (.go f e (.caller a g e :: (gs ++ rest))) rfl _ ?_)).2.2
        refine ⟨_, gt, _, .caller a g e :: gs, rest, rfl, rfl, hR, ?_, hg.mono (by omega)⟩
        exact .inr ⟨(fun w z => by cases z), _, rfl, kt, r, c, ⟨by omega, rfl, hR⟩, hk⟩
      | plus a f g =>
        have hle := ser_le g (.thn (nm "V" (c + 3)) (nm "G" (c + 4)) (.plus a (.name (nm "V" (c + 1))) (.name (nm "V" (c + 3))) kt (.name (nm "G" (c + 4))))) (.name (nm "G" (c + 2))) (c + 4)
        refine (more (z' := .at_ (ser (.plus a f g) kt gt c).1 r) (onm (.go f e (.adder a g e :: (gs ++ rest))) rfl _ ?_)).2.2
        refine ⟨_, gt, _, .adder a g e :: gs, rest, rfl, rfl, hR, ?_, hg.mono (by omega)⟩
        exact .inr ⟨(fun w z => by cases z), _, rfl, kt, r, c, ⟨by omega, rfl, hR⟩, hk⟩
      | pick a p f g =>
        have h1 := ser_le f (.name (nm "K" (c + 1))) (.name (nm "G" (c + 3))) (c + 3)
        have h2 := ser_le g (.name (nm "K" (c + 1))) (.name (nm "G" (c + 3))) (ser f (.name (nm "K" (c + 1))) (.name (nm "G" (c + 3))) (c + 3)).2
        have eg : gon (ser (.pick a p f g) kt gt c).1 r = some (.move (.at_ (ser p (.thn (nm "V" (c + 2)) (nm "G" (c + 3)) (.pick a (.name (nm "V" (c + 2))) (ser f (.name (nm "K" (c + 1))) (.name (nm "G" (c + 3))) (c + 3)).1 (ser g (.name (nm "K" (c + 1))) (.name (nm "G" (c + 3))) (ser f (.name (nm "K" (c + 1))) (.name (nm "G" (c + 3))) (c + 3)).2).1)) gt (ser g (.name (nm "K" (c + 1))) (.name (nm "G" (c + 3))) (ser f (.name (nm "K" (c + 1))) (.name (nm "G" (c + 3))) (c + 3)).2).2).1 (setE r (nm "K" (c + 1)) kc))) := by simp [ser, gon, hk1]
        rw [move_run (t := 3 * t + 2) eg]
        have ag : AG c r (setE r (nm "K" (c + 1)) kc) := AG.set sK (by omega)
        refine (more (z' := .at_ _ _) (onm (.go p e (.picker a f g e :: (gs ++ rest))) rfl _ ?_)).2.1
        refine ⟨_, gt, _, .picker a f g e :: gs, rest, rfl, rfl, En.R_ag hR ag, ?_, (hg.tr ag).mono (by omega)⟩
        refine .inr ⟨(fun w z => by cases z), _, rfl, _, _, c + 1, ⟨c, _, rfl, by omega, by omega, rfl, rfl, En.R_ag hR ag⟩, ?_⟩
        exact .inl ⟨_, kc, rfl, low_nm sK (by omega), by rw [getE_set, if_pos rfl], ck, hk2⟩
      | rnd b =>
        refine (more (z' := .at_ (ser (.rnd b) kt gt c).1 r) (onm (.go b e (.rnd :: (gs ++ rest))) rfl _ ?_)).2.2
        refine ⟨leavT (c + 1), _, c + 3, [], .rnd :: (gs ++ rest), rfl, rfl, hR, ?_, ?_⟩
        · exact .inr ⟨(fun w z => by cases z), _, rfl, ⟨_, _, r, nm_ne sV sG (by omega), rfl⟩⟩
        · refine .inr ⟨(fun w z => by cases z), _, rfl, ?_⟩
          rcases hg with ⟨w, cl, c2, rfl, q1, q2, q3⟩ | ⟨q0, cl, q1, q2⟩
          · exact .name (by omega) hk q1 q2 q3
          · exact .last (by omega) hk q0 q1 q2
      | take a x b =>
        have hx : nmOk x := (hQ.take ho.1).1
        have hle := ser_le b (leavT (c + 1)) (.name (nm "G" (c + 1))) (c + 3)
        have hnr := Rs_norn hk2
        have ag : AG c r (setE r (nm "G" (c + 1)) gc) := AG.set sG (by omega)
        have mG : mean (.name (nm "G" (c + 1))) (setE r (nm "G" (c + 1)) gc) = some gc := by simp [mean, getE_set]
        generalize hE : setE r (nm "G" (c + 1)) gc = E at ag mG
        generalize hS : ser b (leavT (c + 1)) (.name (nm "G" (c + 1))) (c + 3) = S at hle
        have eg : gon (ser (.take a x b) kt gt c).1 r = some (.move (.at_ (.ask a (.name (nm "G" (c + 1))) (.lt x (.code false a (nm "V" (S.2 + 1)) (nm "K" (S.2 + 2)) (nm "G" (S.2 + 3)) (.pass kt (.name (nm "V" (S.2 + 1))) (.last (nm "V" (S.2 + 4)) (.pass (.name (nm "K" (S.2 + 2))) (.name (nm "V" (S.2 + 4))) (.name (nm "G" (S.2 + 3))))))) S.1)) E)) := by simp [ser, gon, hg1, hE, hS]
        rw [move_run (t := 3 * t + 2) eg]
        rcases hg2.shape with ⟨z1, z2⟩ | ⟨gs2, rest2, v2, t2, r2, z1, z2⟩
        · subst z1
          subst z2
          have eg2 : gon (.ask a (.name (nm "G" (c + 1))) (.lt x (.code false a (nm "V" (S.2 + 1)) (nm "K" (S.2 + 2)) (nm "G" (S.2 + 3)) (.pass kt (.name (nm "V" (S.2 + 1))) (.last (nm "V" (S.2 + 4)) (.pass (.name (nm "K" (S.2 + 2))) (.name (nm "V" (S.2 + 4))) (.name (nm "G" (S.2 + 3))))))) S.1)) E = some (.stuck a) := by
            simp only [gon, mG]
            rfl
          have hm : mv (.go (.take a x b) e (gs ++ [])) = .stuck a := by
            simp only [mv]
            rw [List.append_nil, rixm_none' hnr]
          rw [stuck_run (t := 3 * t + 1) eg2, onk a hm]
        · subst z1
          subst z2
          have hm : mv (.go (.take a x b) e (gs ++ .rnd :: (gs2 ++ rest2))) = .step (.go b (.cons x (.kept a gs) e) (.rnd :: (gs2 ++ rest2))) := by
            simp only [mv]
            rw [rixm_at hnr]
            simp
          generalize hKC : Tm.code false a (nm "V" (S.2 + 1)) (nm "K" (S.2 + 2)) (nm "G" (S.2 + 3)) (.pass kt (.name (nm "V" (S.2 + 1))) (.last (nm "V" (S.2 + 4)) (.pass (.name (nm "K" (S.2 + 2))) (.name (nm "V" (S.2 + 4))) (.name (nm "G" (S.2 + 3)))))) = KC
          have eg2 : gon (.ask a (.name (nm "G" (c + 1))) (.lt x KC S.1)) E = some (.step (.at_ (.lt x KC S.1) E)) := by
            simp only [gon, mG]
            rfl
          have hVR : Vl.R (.kept a gs) (.code false a (nm "V" (S.2 + 1)) (nm "K" (S.2 + 2)) (nm "G" (S.2 + 3)) (.pass kt (.name (nm "V" (S.2 + 1))) (.last (nm "V" (S.2 + 4)) (.pass (.name (nm "K" (S.2 + 2))) (.name (nm "V" (S.2 + 4))) (.name (nm "G" (S.2 + 3)))))) E) := ⟨S.2, kt, E, rfl, (hk.tr ag).mono (by omega)⟩
          have hmean : mean KC E = some (.code false a (nm "V" (S.2 + 1)) (nm "K" (S.2 + 2)) (nm "G" (S.2 + 3)) (.pass kt (.name (nm "V" (S.2 + 1))) (.last (nm "V" (S.2 + 4)) (.pass (.name (nm "K" (S.2 + 2))) (.name (nm "V" (S.2 + 4))) (.name (nm "G" (S.2 + 3)))))) E) := by rw [← hKC]; rfl
          generalize (Cl.code false a (nm "V" (S.2 + 1)) (nm "K" (S.2 + 2)) (nm "G" (S.2 + 3)) (.pass kt (.name (nm "V" (S.2 + 1))) (.last (nm "V" (S.2 + 4)) (.pass (.name (nm "K" (S.2 + 2))) (.name (nm "V" (S.2 + 4))) (.name (nm "G" (S.2 + 3)))))) E) = CL at hVR hmean
          have eg3 : gon (.lt x KC S.1) E = some (.move (.at_ S.1 (setE E x CL))) := by simp [gon, hmean]
          have rel : Rel (.go b (.cons x (.kept a gs) e) (.rnd :: (gs2 ++ rest2))) (.at_ S.1 (setE E x CL)) := by
            refine ⟨leavT (c + 1), .name (nm "G" (c + 1)), c + 3, [], .rnd :: (gs2 ++ rest2), rfl, by rw [hS], R_cons hx hR ag hVR, ?_, ?_⟩
            · exact .inr ⟨(fun w z => by cases z), _, rfl, ⟨_, _, _, nm_ne sV sG (by omega), rfl⟩⟩
            · refine .inl ⟨_, _, cg, rfl, low_nm sG (by omega), ?_, hg2⟩
              have : nm "G" (c + 1) ≠ x := fun q => nm_not (n := c + 1) sG (by rw [q]; exact hx)
              rw [getE_set, if_neg this]
              exact mG
          rw [step_run (t := 3 * t + 1) eg2]
          cases n with
          | zero => rw [on0 _ hm rfl]
          | succ m =>
            show prun (3 * t + 1) m _ _ = _
            rw [move_run (t := 3 * t) eg3]
            exact ons _ m hm rfl (.at_ S.1 (setE E x CL)) rel
      | shut a x b => exact (hQ.shut ho.1).elim
      | kept a fs => exact (hQ.kept ho.1).elim
/-- the plain term of a closed piece and putting in come to the same -/
theorem plain_is {Q : List Str → Pc → Prop} (hQ : QC Q) (hc : ∀ sc p, Q sc p → cd p ≤ 41) (p : Pc) (n : Nat) (h : Q [] p) : prun (3 * (126 * n + 127)) n (plainT p) .nil = some (resP n p) := by
  have ho : (Sm.go p .nil []).ok Q := ⟨h, trivial, trivial⟩
  have hm := mu_le (shal_of hc ho)
  have rel : Rel (.go p .nil []) (.at_ (plainT p) .nil) := ⟨.halt, .fin, 0, [], [], rfl, rfl, trivial, .inr ⟨(fun w z => by cases z), .halt, rfl, rfl⟩, .inr ⟨(fun w z => by cases z), .fin, rfl, .fin⟩⟩
  have h1 := plain_sim hQ hc (126 * n + 127) n _ _ ho (by omega) rel
  have h2 := resM_is hQ hc (126 * n + 127) n _ ho (by omega)
  have eu : ul (.go p .nil []) = p := by simp only [ul, Mf.shs, plug, En.sh]; rw [psub_nil]
  rw [h2, eu] at h1
  exact h1
end Cb
namespace Cb
open PySem PySem.Spec PyProof.Rows L2
/-! ## how many names are known -/
mutual
def Cl.mx : Cl → Nat
  | .num _ => 0
  | .halt => 0
  | .fin => 0
  | .code _ _ _ _ _ _ e => Ce.mx e
  | .thn _ _ _ e => Ce.mx e
  | .last _ _ e => Ce.mx e
def Ce.mx : Ce → Nat
  | .nil => 0
  | .cons _ v e => max (max (Cl.mx v) (Ce.mx e)) (e.len + 1)
end
theorem len_mx : ∀ e : Ce, e.len ≤ e.mx
  | .nil => Nat.le_refl _
  | .cons _ v e => by simp only [Ce.len, Ce.mx]; omega
theorem get_mx {x : Str} : ∀ {e : Ce} {v : Cl}, getE e x = some v → v.mx ≤ e.mx
  | .nil, _, h => by simp [getE] at h
  | .cons y w e, v, h => by
    simp only [getE] at h
    simp only [Ce.mx]
    split at h
    · cases h; omega
    · have := get_mx h; omega
theorem set_mx (x : Str) (v : Cl) : ∀ e : Ce, (setE e x v).mx ≤ max (max e.mx v.mx) (e.len + 1)
  | .nil => by simp [setE, Ce.mx, Ce.len]
  | .cons y w e => by
    have := set_mx x v e
    have := setE_len x v e
    simp only [setE]
    split
    · simp only [Ce.mx, Ce.len]; omega
    · simp only [Ce.mx, Ce.len]; omega
theorem set_le {x : Str} {v : Cl} {e : Ce} {B : Nat} (he : e.mx ≤ B) (hv : v.mx ≤ B + 1) : (setE e x v).mx ≤ B + 1 := by
  have := set_mx x v e
  have := len_mx e
  omega
theorem mean_mx {t : Tm} {e : Ce} {v : Cl} (h : mean t e = some v) : v.mx ≤ e.mx := by
  cases t <;> simp only [mean, Option.some.injEq] at h <;> first | (subst h; simp [Cl.mx]; done) | exact get_mx h | cases h
def Gn.mx : Gn → Nat
  | .told v => v.mx
  | .at_ _ e => e.mx
theorem goi_mx {k v g : Cl} {z : Gn} {B : Nat} (h : goi k v g = some z) (hk : k.mx ≤ B) (hv : v.mx ≤ B) (hg : g.mx ≤ B) : z.mx ≤ B + 2 := by
  cases k <;> simp only [goi, Option.some.injEq] at h <;> try cases h
  · simp only [Gn.mx]; omega
  · simp only [Cl.mx] at hk
    simp only [Gn.mx]
    exact set_le (B := B + 1) (set_le hk (by omega)) (by omega)
def Pv.mx : Pv → Nat
  | .move z => z.mx
  | .step z => z.mx
  | .stuck _ => 0
theorem gon_mx {t : Tm} {e : Ce} {v : Pv} (h : gon t e = some v) : v.mx ≤ e.mx + 3 := by
  cases t with
  | pass k p g =>
    simp only [gon, Option.bind_eq_some_iff, Option.map_eq_some_iff] at h
    obtain ⟨k', h1, p', h2, g', h3, z, h4, rfl⟩ := h
    have := goi_mx h4 (mean_mx h1) (mean_mx h2) (mean_mx h3)
    simp only [Pv.mx]; omega
  | lt w p t =>
    simp only [gon, Option.map_eq_some_iff] at h
    obtain ⟨v', h1, rfl⟩ := h
    have := set_le (x := w) (Nat.le_refl e.mx) (Nat.le_trans (mean_mx h1) (Nat.le_succ _))
    simp only [Pv.mx, Gn.mx]; omega
  | leave g p =>
    simp only [gon, Option.bind_eq_some_iff] at h
    obtain ⟨l, h1, v', h2, h3⟩ := h
    cases l <;> simp only [Option.some.injEq] at h3 <;> try cases h3
    have q := mean_mx h1
    simp only [Cl.mx] at q
    simp only [Pv.mx, Gn.mx]
    exact Nat.le_trans (set_le (v := v') q (Nat.le_trans (mean_mx h2) (Nat.le_succ _))) (by omega)
  | shut p k g =>
    simp only [gon, Option.bind_eq_some_iff, Option.map_eq_some_iff] at h
    obtain ⟨k', h1, p', h2, g', h3, z, h4, rfl⟩ := h
    have := goi_mx h4 (mean_mx h1) (mean_mx h2) (mean_mx h3)
    simp only [Pv.mx]; omega
  | call a p q k g =>
    simp only [gon, Option.bind_eq_some_iff] at h
    obtain ⟨f, h1, h⟩ := h
    have hf := mean_mx h1
    cases f with
    | code fn a' x k' g' t e' =>
      simp only [Option.bind_eq_some_iff, Option.some.injEq] at h
      obtain ⟨q', h2, k2, h3, g2, h4, rfl⟩ := h
      simp only [Cl.mx] at hf
      have := mean_mx h2
      have := mean_mx h3
      have := mean_mx h4
      simp only [Pv.mx, Gn.mx]
      exact set_le (B := e.mx + 2) (set_le (B := e.mx + 1) (set_le hf (by omega)) (by omega)) (by omega)
    | _ => simp only [Option.some.injEq] at h; subst h; simp [Pv.mx]
  | plus a p q k g =>
    simp only [gon, Option.bind_eq_some_iff] at h
    obtain ⟨x, h1, y, h2, h⟩ := h
    split at h
    · simp only [Option.bind_eq_some_iff, Option.map_eq_some_iff] at h
      obtain ⟨k', h3, g', h4, z, h5, rfl⟩ := h
      have := goi_mx h5 (mean_mx h3) (by simp [Cl.mx]) (mean_mx h4)
      simp only [Pv.mx]; omega
    · simp only [Option.some.injEq] at h; subst h; simp [Pv.mx]
  | pick a p t u =>
    simp only [gon, Option.bind_eq_some_iff] at h
    obtain ⟨x, h1, h⟩ := h
    split at h
    · simp only [Option.some.injEq] at h; subst h; simp only [Pv.mx, Gn.mx]; omega
    · simp only [Option.some.injEq] at h; subst h; simp [Pv.mx]
  | ask a g t =>
    simp only [gon, Option.bind_eq_some_iff] at h
    obtain ⟨x, h1, h⟩ := h
    split at h
    · simp only [Option.some.injEq] at h; subst h; simp [Pv.mx]
    · simp only [Option.some.injEq] at h; subst h; simp only [Pv.mx, Gn.mx]; omega
  | _ => simp [gon] at h
/-! the dict of an environment -/
def setEs : Ce → List Str → List Cl → Ce
  | e, x :: xs, v :: vs => setEs (setE e x v) xs vs
  | e, _, _ => e
theorem ks_len : ∀ e : Ce, (Ce.ks e).length = e.len
  | .nil => rfl
  | .cons _ _ e => by simp [Ce.ks, Ce.len, ks_len e]
theorem ks_val (x : Str) : ∀ e : Ce, valD (Ce.ks e) (.inr x) = (getE e x).map Cl.d
  | .nil => rfl
  | .cons y v e => by
    have ih := ks_val x e
    unfold valD at ih ⊢
    simp only [Ce.ks, getE, List.find?_cons]
    by_cases h : y = x
    · simp [h]
    · simp only [h, if_false]
      have : ¬ (Sum.inr y : Key) = Sum.inr x := fun q => h (Sum.inr.inj q)
      simp only [this, decide_false]
      exact ih
theorem ks_any (x : Str) : ∀ e : Ce, ((Ce.ks e).any fun kv => decide (kv.1 = (.inr x : Key))) = (getE e x).isSome
  | .nil => rfl
  | .cons y v e => by
    simp only [Ce.ks, getE, List.any_cons, ks_any x e]
    by_cases h : y = x
    · simp [h]
    · have : ¬ (Sum.inr y : Key) = Sum.inr x := fun q => h (Sum.inr.inj q)
      simp [h, this]
/-- no name stands twice -/
def Ce.nd : Ce → Prop
  | .nil => True
  | .cons x _ e => getE e x = none ∧ Ce.nd e
theorem map_id (x : Str) (v : Cl) : ∀ e : Ce, getE e x = none → (Ce.ks e).map (fun kv => if kv.1 = (.inr x : Key) then (kv.1, v.d) else kv) = Ce.ks e
  | .nil, _ => rfl
  | .cons y w e, h => by
    simp only [getE] at h
    split at h
    · cases h
    · rename_i hne
      have : ¬ (Sum.inr y : Key) = Sum.inr x := fun q => hne (Sum.inr.inj q)
      simp only [Ce.ks, List.map_cons, this, if_false]
      rw [map_id x v e h]
theorem set_none (x : Str) (v : Cl) : ∀ e : Ce, getE e x = none → Ce.ks (setE e x v) = Ce.ks e ++ [(.inr x, v.d)]
  | .nil, _ => rfl
  | .cons y w e, h => by
    simp only [getE] at h
    split at h
    · cases h
    · rename_i hne
      simp only [setE, hne, if_false, Ce.ks]
      rw [set_none x v e h]
      rfl
theorem set_some (x : Str) (v : Cl) : ∀ e : Ce, e.nd → getE e x ≠ none → Ce.ks (setE e x v) = (Ce.ks e).map (fun kv => if kv.1 = (.inr x : Key) then (kv.1, v.d) else kv)
  | .nil, _, h => by simp [getE] at h
  | .cons y w e, hn, h => by
    simp only [getE] at h
    by_cases hy : y = x
    · subst hy
      simp only [setE, if_true, Ce.ks, List.map_cons]
      rw [map_id y v e hn.1]
    · simp only [hy, if_false] at h
      have : ¬ (Sum.inr y : Key) = Sum.inr x := fun q => hy (Sum.inr.inj q)
      simp only [setE, hy, if_false, Ce.ks, List.map_cons, this]
      rw [set_some x v e hn.2 h]
theorem ks_put (x : Str) (v : Cl) (e : Ce) (hn : e.nd) : putD (Ce.ks e) (.inr x) v.d = Ce.ks (setE e x v) := by
  unfold putD
  rw [ks_any]
  cases h : getE e x with
  | none => simp [set_none x v e h]
  | some w => simp [set_some x v e hn (by rw [h]; simp)]
theorem set_nd (x : Str) (v : Cl) : ∀ e : Ce, e.nd → (setE e x v).nd
  | .nil, _ => ⟨rfl, trivial⟩
  | .cons y w e, h => by
    simp only [setE]
    split
    · exact h
    · rename_i hy
      refine ⟨?_, set_nd x v e h.2⟩
      rw [getE_set, if_neg hy]
      exact h.1
mutual
def Cl.nd : Cl → Prop
  | .num _ => True
  | .halt => True
  | .fin => True
  | .code _ _ _ _ _ _ e => Ce.nds e
  | .thn _ _ _ e => Ce.nds e
  | .last _ _ e => Ce.nds e
def Ce.nds : Ce → Prop
  | .nil => True
  | .cons x v e => (getE e x = none ∧ Cl.nd v) ∧ Ce.nds e
end
theorem nds_nd : ∀ {e : Ce}, e.nds → e.nd
  | .nil, _ => trivial
  | .cons x v e, h => ⟨h.1.1, nds_nd h.2⟩
theorem get_nd {x : Str} : ∀ {e : Ce} {v : Cl}, e.nds → getE e x = some v → v.nd
  | .nil, _, _, h => by simp [getE] at h
  | .cons y w e, v, hn, h => by
    simp only [getE] at h
    split at h
    · cases h; exact hn.1.2
    · exact get_nd hn.2 h
theorem set_nds {x : Str} {v : Cl} (hv : v.nd) : ∀ {e : Ce}, e.nds → (setE e x v).nds
  | .nil, _ => ⟨⟨rfl, hv⟩, trivial⟩
  | .cons y w e, h => by
    simp only [setE]
    split
    · exact ⟨⟨h.1.1, hv⟩, h.2⟩
    · rename_i hy
      refine ⟨⟨?_, h.1.2⟩, set_nds hv h.2⟩
      rw [getE_set, if_neg hy]
      exact h.1.1
theorem mean_nd {t : Tm} {e : Ce} {v : Cl} (he : e.nds) (h : mean t e = some v) : v.nd := by
  cases t <;> simp only [mean, Option.some.injEq] at h <;> first | (subst h; first | exact trivial | exact he) | exact get_nd he h | cases h
def Gn.nd : Gn → Prop
  | .told v => v.nd
  | .at_ _ e => e.nds
theorem goi_nd {k v g : Cl} {z : Gn} (h : goi k v g = some z) (hk : k.nd) (hv : v.nd) (hg : g.nd) : z.nd := by
  cases k <;> simp only [goi, Option.some.injEq] at h <;> try cases h
  · exact hv
  · exact set_nds hg (set_nds hv hk)
def Pv.nd : Pv → Prop
  | .move z => z.nd
  | .step z => z.nd
  | .stuck _ => True
theorem gon_nd {t : Tm} {e : Ce} {v : Pv} (he : e.nds) (h : gon t e = some v) : v.nd := by
  cases t with
  | pass k p g =>
    simp only [gon, Option.bind_eq_some_iff, Option.map_eq_some_iff] at h
    obtain ⟨k', h1, p', h2, g', h3, z, h4, rfl⟩ := h
    exact goi_nd h4 (mean_nd he h1) (mean_nd he h2) (mean_nd he h3)
  | lt w p t =>
    simp only [gon, Option.map_eq_some_iff] at h
    obtain ⟨v', h1, rfl⟩ := h
    exact set_nds (mean_nd he h1) he
  | leave g p =>
    simp only [gon, Option.bind_eq_some_iff] at h
    obtain ⟨l, h1, v', h2, h3⟩ := h
    cases l <;> simp only [Option.some.injEq] at h3 <;> try cases h3
    have q := mean_nd he h1
    exact set_nds (mean_nd he h2) q
  | shut p k g =>
    simp only [gon, Option.bind_eq_some_iff, Option.map_eq_some_iff] at h
    obtain ⟨k', h1, p', h2, g', h3, z, h4, rfl⟩ := h
    exact goi_nd h4 (mean_nd he h1) (mean_nd he h2) (mean_nd he h3)
  | call a p q k g =>
    simp only [gon, Option.bind_eq_some_iff] at h
    obtain ⟨f, h1, h⟩ := h
    have hf := mean_nd he h1
    cases f with
    | code fn a' x k' g' t e' =>
      simp only [Option.bind_eq_some_iff, Option.some.injEq] at h
      obtain ⟨q', h2, k2, h3, g2, h4, rfl⟩ := h
      exact set_nds (mean_nd he h4) (set_nds (mean_nd he h3) (set_nds (mean_nd he h2) hf))
    | _ => simp only [Option.some.injEq] at h; subst h; exact trivial
  | plus a p q k g =>
    simp only [gon, Option.bind_eq_some_iff] at h
    obtain ⟨x, h1, y, h2, h⟩ := h
    split at h
    · simp only [Option.bind_eq_some_iff, Option.map_eq_some_iff] at h
      obtain ⟨k', h3, g', h4, z, h5, rfl⟩ := h
      exact goi_nd h5 (mean_nd he h3) trivial (mean_nd he h4)
    · simp only [Option.some.injEq] at h; subst h; exact trivial
  | pick a p t u =>
    simp only [gon, Option.bind_eq_some_iff] at h
    obtain ⟨x, h1, h⟩ := h
    split at h
    · simp only [Option.some.injEq] at h; subst h; exact he
    · simp only [Option.some.injEq] at h; subst h; exact trivial
  | ask a g t =>
    simp only [gon, Option.bind_eq_some_iff] at h
    obtain ⟨x, h1, h⟩ := h
    split at h
    · simp only [Option.some.injEq] at h; subst h; exact trivial
    · simp only [Option.some.injEq] at h; subst h; exact he
  | _ => simp [gon] at h
theorem setEs_nds : ∀ {xs : List Str} {vs : List Cl} {e : Ce}, e.nds → (∀ v ∈ vs, v.nd) → (setEs e xs vs).nds
  | [], vs, e, h, _ => by cases vs <;> exact h
  | x :: xs, [], e, h, _ => h
  | x :: xs, v :: vs, e, h, hv => setEs_nds (xs := xs) (vs := vs) (set_nds (x := x) (hv v List.mem_cons_self) h) fun w hw => hv w (List.mem_cons_of_mem _ hw)
theorem okD_ks (n : Nat) : ∀ ks : List (Key × D), okKs n ks = okDs n (ks.map (·.2)) := okKs_eq n
end Cb
namespace Cb
open PySem PySem.Spec PyProof.Rows L2
/-! ## k07: rows of a plain term, plain -/
inductive Kv where
  | num (n : Int) | code (fn : Bool) (a : Int) | codeP (fn : Bool) (a b : Int) (v : Kv) | fin
def Kv.isNum : Kv → Bool
  | .num _ => true
  | _ => false
abbrev Kn := List (Str × Kv)
def kget : Kn → Str → Option Kv
  | [], _ => none
  | (y, v) :: e, x => if y = x then some v else kget e x
def kset : Kn → Str → Kv → Kn
  | [], x, v => [(x, v)]
  | (y, w) :: e, x, v => if y = x then (y, v) :: e else (y, w) :: kset e x v
theorem kget_set (x : Str) (v : Kv) (y : Str) : ∀ e : Kn, kget (kset e x v) y = if y = x then some v else kget e y
  | [] => by
    simp only [kset, kget]
    by_cases h : x = y
    · simp [h]
    · have : ¬ y = x := fun q => h q.symm
      simp [h, this]
  | (z, w) :: e => by
    simp only [kset]
    by_cases hz : z = x
    · subst hz
      simp only [if_true, kget]
      by_cases h : z = y
      · simp [h]
      · have : ¬ y = z := fun q => h q.symm
        simp [h, this]
    · rw [if_neg hz]
      simp only [kget]
      rw [kget_set x v y e]
      by_cases h : z = y
      · subst h; simp [hz]
      · simp [h]
def knm (e : Kn) : List Str := e.map (·.1)
theorem kget_mem {x : Str} : ∀ {e : Kn}, x ∈ knm e → ∃ v, kget e x = some v
  | [], h => by simp [knm] at h
  | (y, v) :: e, h => by
    simp only [kget]
    by_cases q : y = x
    · exact ⟨v, by rw [if_pos q]⟩
    · rw [if_neg q]
      refine kget_mem ?_
      simp only [knm, List.map_cons, List.mem_cons] at h ⊢
      rcases h with h | h
      · exact absurd h.symm q
      · exact h
theorem mem_kget {x : Str} {v : Kv} : ∀ {e : Kn}, kget e x = some v → x ∈ knm e
  | [], h => by simp [kget] at h
  | (y, w) :: e, h => by
    simp only [kget] at h
    simp only [knm, List.map_cons, List.mem_cons]
    by_cases q : y = x
    · exact .inl q.symm
    · rw [if_neg q] at h
      exact .inr (mem_kget h)
theorem kset_mem {x y : Str} {v : Kv} : ∀ {e : Kn}, y ∈ knm (kset e x v) → y = x ∨ y ∈ knm e
  | [], h => by simpa [kset, knm] using h
  | (z, w) :: e, h => by
    simp only [kset] at h
    by_cases q : z = x
    · rw [if_pos q] at h
      exact .inr (by simpa [knm] using h)
    · rw [if_neg q] at h
      simp only [knm, List.map_cons, List.mem_cons] at h ⊢
      rcases h with h | h
      · exact .inr (.inl h)
      · rcases kset_mem h with h | h
        · exact .inl h
        · exact .inr (.inr h)
theorem kset_len (x : Str) (v : Kv) : ∀ e : Kn, (kset e x v).length ≤ e.length + 1
  | [] => by simp [kset]
  | (y, w) :: e => by
    simp only [kset]
    split
    · simp
    · have := kset_len x v e; simp only [List.length_cons]; omega
/-! rows -/
inductive Wd where
  | lt | pass | plus | pick | call | shut | leave | ask | hthn | hlast
structure Rw where
  w : Wd
  a : Int
  n0 : Str
  n1 : Str
  s0 : Tm
  s1 : Tm
def cdP (fn : Bool) (a : Int) : Tm := .code fn a "x" "k" "g" (.pass (.name "k") (.name "x") (.name "g"))
def cdQ (fn : Bool) (a b : Int) (o : Str) : Tm := .code fn a "x" "k" "g" (.plus b (.name "x") (.name o) (.name "k") (.name "g"))
/-- a simple term over what is known: a number, a name, a code -/
inductive Sk7 (e : Kn) : Tm → Prop
  | num (n : Int) : Sk7 e (.num n)
  | name {w : Str} {v : Kv} : kget e w = some v → v ≠ .fin → Sk7 e (.name w)
  | cdP (fn : Bool) (a : Int) : Sk7 e (cdP fn a)
  | cdQ (fn : Bool) (a b : Int) {o : Str} {v : Kv} : kget e o = some v → v ≠ .fin → o ≠ "x" → o ≠ "k" → o ≠ "g" → Sk7 e (cdQ fn a b o)
def meanK : Tm → Kn → Option Kv
  | .name w, e => kget e w
  | .num n, _ => some (.num n)
  | .code fn a _ _ _ (.plus b _ (.name o) _ _), e => (kget e o).map (.codeP fn a b)
  | .code fn a _ _ _ (.pass _ _ _), _ => some (.code fn a)
  | _, _ => none
def bound (r : Rw) (e : Kn) (v : Kv) (j : Nat) : Kn × Nat :=
  if r.a % 4 = 1 then (kset e r.n0 v, j + 1) else (kset (kset e r.n0 v) r.n1 .fin, j + if r.a % 4 = 2 then 1 else 0)
abbrev Bh := Option Int × Kn × Nat
def Rw.go (x : Kn × Nat) : Bh := (none, x.1, x.2)
def beh (r : Rw) (tn : Str) (e : Kn) : Option Bh := (meanK r.s0 e).bind fun v0 => (meanK r.s1 e).bind fun v1 => match r.w with
  | .plus => match v0, v1 with
    | .num m, .num n => some (Rw.go (bound r e (.num (m + n)) 1))
    | _, _ => some (some r.a, e, 0)
  | .pick => match v0 with
    | .num _ => some (none, e, 1)
    | _ => some (some r.a, e, 0)
  | .call => match v0 with
    | .code _ _ => some (Rw.go (bound r e v1 1))
    | .codeP _ _ b v => (match v1, v with
      | .num m, .num n => some (Rw.go (bound r e (.num (m + n)) 2))
      | _, _ => some (some b, e, 1))
    | _ => some (some r.a, e, 0)
  | .hthn => (meanK r.s0 (kset e tn v1)).bind fun v => some (none, kset (kset e r.n0 v) r.n1 .fin, 0)
  | .hlast => (meanK r.s0 (kset e tn v1)).bind fun v => some (none, kset e r.n0 v, 1)
  | .ask => if r.a % 4 = 1 then some (some r.a, e, 0) else some (none, e, 1)
  | .shut => some (Rw.go (bound r e v0 1))
  | .leave => some (none, kset e r.n0 v0, 1)
  | .pass => some (Rw.go (bound r e v0 0))
  | .lt => some (none, kset e r.n0 v0, 0)
def otherT : Tm := .pass .halt (.num 77) .fin
def handK (r : Rw) (t : Tm) : Tm := if r.a % 4 = 1 then .thn r.n0 r.n1 (.leave (.name r.n1) (.name r.n0)) else if r.a % 4 = 2 then .thn r.n0 r.n1 (.ask ((r.a + 1) % 10000) (.name r.n1) t) else .thn r.n0 r.n1 t
def handG (r : Rw) (t : Tm) : Tm := if r.a % 4 = 1 then .last r.n0 t else if r.a % 4 = 2 then .last "c" otherT else .fin
def isN0 : Option Kv → Bool
  | some (.num n) => n == 0
  | _ => false
def tmOf (r : Rw) (tn : Str) (t : Tm) (e : Kn) : Tm := match r.w with
  | .hthn => .lt "H1" (.thn r.n0 r.n1 t) (.lt tn r.s1 (.pass (.name "H1") r.s0 .fin))
  | .hlast => .lt "H1" (.last r.n0 t) (.lt tn r.s1 (.leave (.name "H1") r.s0))
  | .plus => .plus r.a r.s0 r.s1 (handK r t) (handG r t)
  | .call => .call r.a r.s0 r.s1 (handK r t) (handG r t)
  | .pick => if isN0 (meanK r.s0 e) = true then .pick r.a r.s0 t otherT else .pick r.a r.s0 otherT t
  | .ask => if r.a % 4 = 1 then .ask r.a .fin t else .ask r.a (.last "x" t) t
  | .shut => .shut r.s0 (handK r t) (handG r t)
  | .leave => .leave (.last r.n0 t) r.s0
  | .pass => .pass (handK r t) r.s0 (handG r t)
  | .lt => .lt r.n0 r.s0 t
/-! ## what is known, and what the environment holds -/
def RV : Kv → Cl → Prop
  | .num n, u => u = .num n
  | .code fn a, u => ∃ c, u = .code fn a "x" "k" "g" (.pass (.name "k") (.name "x") (.name "g")) c
  | .codeP fn a b v, u => ∃ c o w, u = .code fn a "x" "k" "g" (.plus b (.name "x") (.name o) (.name "k") (.name "g")) c ∧ o ≠ "x" ∧ o ≠ "k" ∧ o ≠ "g" ∧ getE c o = some w ∧ v ≠ .fin ∧ RV v w
  | .fin, _ => True
def Rl7 (e : Kn) (c : Ce) : Prop := ∀ w v, kget e w = some v → ∃ u, getE c w = some u ∧ RV v u
theorem Rl7.set {e : Kn} {c : Ce} (h : Rl7 e c) (x : Str) {v : Kv} {u : Cl} (r : RV v u) : Rl7 (kset e x v) (setE c x u) := fun y w hy => by
  rw [kget_set] at hy
  rw [getE_set]
  by_cases q : y = x
  · rw [if_pos q] at hy ⊢
    cases hy
    exact ⟨u, rfl, r⟩
  · rw [if_neg q] at hy ⊢
    exact h y w hy
theorem Rl7.more {e : Kn} {c : Ce} (h : Rl7 e c) {x : Str} (hx : x ∉ knm e) (u : Cl) : Rl7 e (setE c x u) := fun y w hy => by
  rw [getE_set]
  have q : ¬ y = x := fun z => hx (z ▸ mem_kget hy)
  rw [if_neg q]
  exact h y w hy
theorem mean_rel {e : Kn} {c : Ce} {t : Tm} {v : Kv} (h : Rl7 e c) (s : Sk7 e t) (hv : meanK t e = some v) : v ≠ .fin ∧ ∃ u, mean t c = some u ∧ RV v u := by
  cases s with
  | num n => cases hv; exact ⟨(fun z => nomatch z), _, rfl, rfl⟩
  | name hw hn =>
    have hv : kget e _ = some v := hv
    rw [hw] at hv
    cases hv
    obtain ⟨u, h1, h2⟩ := h _ _ hw
    exact ⟨hn, u, h1, h2⟩
  | cdP fn a => cases hv; exact ⟨(fun z => nomatch z), _, rfl, _, rfl⟩
  | @cdQ fn a b o w hw hn h1 h2 h3 =>
    have hv : (kget e o).map (.codeP fn a b) = some v := hv
    rw [hw] at hv
    cases hv
    obtain ⟨u, h4, h5⟩ := h _ _ hw
    exact ⟨(fun z => nomatch z), _, rfl, c, o, u, rfl, h1, h2, h3, h4, hn, h5⟩
theorem Sk7.later {e : Kn} {t : Tm} (s : Sk7 e t) (x : Str) {v : Kv} (hv : v ≠ .fin) : Sk7 (kset e x v) t := by
  have key : ∀ {w : Str} {u : Kv}, kget e w = some u → u ≠ .fin → ∃ u', kget (kset e x v) w = some u' ∧ u' ≠ .fin := fun {w u} h hn => by
    rw [kget_set]
    split
    · exact ⟨v, rfl, hv⟩
    · exact ⟨u, h, hn⟩
  cases s with
  | num n => exact .num n
  | name hw hn => obtain ⟨u, h1, h2⟩ := key hw hn; exact .name h1 h2
  | cdP fn a => exact .cdP fn a
  | cdQ fn a b hw hn h1 h2 h3 => obtain ⟨u, h4, h5⟩ := key hw hn; exact .cdQ fn a b h4 h5 h1 h2 h3
theorem Sk7.mean {e : Kn} {t : Tm} (s : Sk7 e t) : ∃ v, meanK t e = some v ∧ v ≠ .fin := by
  cases s with
  | num n => exact ⟨_, rfl, fun z => nomatch z⟩
  | name hw hn => exact ⟨_, hw, hn⟩
  | cdP fn a => exact ⟨_, rfl, fun z => nomatch z⟩
  | @cdQ fn a b o w hw hn h1 h2 h3 => exact ⟨.codeP fn a b w, (by show (kget e o).map (Kv.codeP fn a b) = _; rw [hw]; rfl), fun z => nomatch z⟩
theorem rv_num {v : Kv} {u : Cl} (h : RV v u) (hn : v ≠ .fin) : (∃ n, v = .num n ∧ u = .num n) ∨ ((∀ n, v ≠ .num n) ∧ ∀ n, u ≠ .num n) := by
  cases v with
  | num n => exact .inl ⟨n, rfl, h⟩
  | code fn a => obtain ⟨c, rfl⟩ := h; exact .inr ⟨(fun n z => nomatch z), fun n z => nomatch z⟩
  | codeP fn a b v => obtain ⟨c, o, w, rfl, _⟩ := h; exact .inr ⟨(fun n z => nomatch z), fun n z => nomatch z⟩
  | fin => exact absurd rfl hn
structure Gd7 (r : Rw) (tn : Str) (e : Kn) : Prop where
  ne : r.n0 ≠ r.n1
  h0 : r.n0 ≠ "H1"
  h1 : r.n1 ≠ "H1"
  ht : tn ≠ "H1"
  s0 : Sk7 e r.s0
  s1 : Sk7 e r.s1
/-! ## the runs -/
theorem mn_last (w : Str) (t : Tm) (c : Ce) : mean (.last w t) c = some (.last w t c) := rfl
theorem mn_thn (w g : Str) (t : Tm) (c : Ce) : mean (.thn w g t) c = some (.thn w g t c) := rfl
theorem mn_name (w : Str) (c : Ce) : mean (.name w) c = getE c w := rfl
theorem mn_fin (c : Ce) : mean .fin c = some .fin := rfl
theorem mn_halt (c : Ce) : mean .halt c = some .halt := rfl
/-- some turns, j steps -/
def Goes (j : Nat) (T : Tm) (c : Ce) (T' : Tm) (c' : Ce) : Prop := ∃ t0, t0 ≤ 6 ∧ ∀ t n, prun (t + t0) n T c = if n < j then some .dry else prun t (n - j) T' c'
def Ends7 (j : Nat) (T : Tm) (c : Ce) (a : Int) : Prop := ∃ t0, t0 ≤ 6 ∧ ∀ t n, prun (t + t0) n T c = if n < j then some .dry else some (.stuck a)
theorem go_move {T T' : Tm} {c c' : Ce} (h : gon T c = some (.move (.at_ T' c'))) (t n : Nat) : prun (t + 1) n T c = prun t n T' c' := by
  rw [prun, h]
theorem go_step {T T' : Tm} {c c' : Ce} (h : gon T c = some (.step (.at_ T' c'))) (t n : Nat) : prun (t + 1) n T c = if n < 1 then some .dry else prun t (n - 1) T' c' := by
  rw [prun, h]
  cases n with
  | zero => rfl
  | succ n => simp
theorem go_stuck {T : Tm} {c : Ce} {a : Int} (h : gon T c = some (.stuck a)) (t n : Nat) : prun (t + 1) n T c = some (.stuck a) := by
  rw [prun, h]
/-- a value is handed on: to what comes behind -/
theorem handed_goes {r : Rw} {tn : Str} {e : Kn} {c : Ce} {v : Kv} {u : Cl} (g : Gd7 r tn e) (h : Rl7 e c) (hu : RV v u) (t : Tm) (j : Nat) : ∃ k l T c', mean (handK r t) c = some k ∧ mean (handG r t) c = some l ∧ goi k u l = some (.at_ T c') ∧
    ∃ c2 t0, t0 ≤ 1 ∧ Rl7 (bound r e v j).1 c2 ∧ ∀ s n, prun (s + t0) n T c' = if n < (bound r e v j).2 - j then some .dry else prun s (n - ((bound r e v j).2 - j)) t c2 := by
  have gn0 : ∀ (x y : Cl), getE (setE (setE c r.n0 x) r.n1 y) r.n0 = some x := fun x y => by
    rw [getE_set, if_neg g.ne, getE_set, if_pos rfl]
  have gn1 : ∀ (x y : Cl), getE (setE (setE c r.n0 x) r.n1 y) r.n1 = some y := fun x y => by
    rw [getE_set, if_pos rfl]
  unfold handK handG bound
  by_cases h1 : r.a % 4 = 1
  · simp only [if_pos h1]
    refine ⟨_, _, _, _, rfl, rfl, rfl, setE c r.n0 u, 1, Nat.le_refl _, h.set _ hu, fun s n => ?_⟩
    have hg : gon (.leave (.name r.n1) (.name r.n0)) (setE (setE c r.n0 u) r.n1 (.last r.n0 t c)) = some (.step (.at_ t (setE c r.n0 u))) := by
      simp only [gon, mean, gn0, gn1, Option.bind_some]
    rw [go_step hg]
    have : j + 1 - j = 1 := by omega
    rw [this]
  · simp only [if_neg h1]
    by_cases h2 : r.a % 4 = 2
    · simp only [if_pos h2]
      refine ⟨_, _, _, _, rfl, rfl, rfl, setE (setE c r.n0 u) r.n1 (.last "c" otherT c), 1, Nat.le_refl _, (h.set _ hu).set _ (v := .fin) trivial, fun s n => ?_⟩
      have hg : gon (.ask ((r.a + 1) % 10000) (.name r.n1) t) (setE (setE c r.n0 u) r.n1 (.last "c" otherT c)) = some (.step (.at_ t (setE (setE c r.n0 u) r.n1 (.last "c" otherT c)))) := by
        simp only [gon, mean, gn1, Option.bind_some]
      rw [go_step hg]
      have : j + 1 - j = 1 := by omega
      rw [this]
    · simp only [if_neg h2]
      refine ⟨_, _, _, _, rfl, rfl, rfl, setE (setE c r.n0 u) r.n1 .fin, 0, Nat.zero_le _, (h.set _ hu).set _ (v := .fin) trivial, fun s n => ?_⟩
      have : j + 0 - j = 0 := by omega
      rw [this]
      simp
theorem bound_le (r : Rw) (e : Kn) (v : Kv) (j : Nat) : j ≤ (bound r e v j).2 := by
  unfold bound
  split <;> simp
/-- one step, and then to what comes behind -/
theorem goes_step {r : Rw} {tn : Str} {e : Kn} {c : Ce} {v : Kv} {u : Cl} {T t : Tm} (g : Gd7 r tn e) (h : Rl7 e c) (hu : RV v u) (hg : ∀ k l z, mean (handK r t) c = some k → mean (handG r t) c = some l → goi k u l = some z → gon T c = some (.step z)) :
    ∃ c2, Goes (bound r e v 1).2 T c t c2 ∧ Rl7 (bound r e v 1).1 c2 := by
  obtain ⟨k, l, T', c', h1, h2, h3, c2, t0, h4, h5, h6⟩ := handed_goes g h hu t 1
  have hb := bound_le r e v 1
  refine ⟨c2, ⟨t0 + 1, by omega, fun s n => ?_⟩, h5⟩
  rw [← Nat.add_assoc, go_step (hg k l _ h1 h2 h3)]
  by_cases hn : n < 1
  · rw [if_pos hn, if_pos (by omega)]
  · rw [if_neg hn, h6]
    by_cases hm : n - 1 < (bound r e v 1).2 - 1
    · rw [if_pos hm, if_pos (by omega)]
    · rw [if_neg hm, if_neg (by omega)]
      congr 1
      omega
theorem row_goes {r : Rw} {tn : Str} {e e' : Kn} {c : Ce} {j : Nat} {o : Option Int} (t : Tm) (g : Gd7 r tn e) (h : Rl7 e c) (hH : ("H1" : Str) ∉ knm e) (hb : beh r tn e = some (o, e', j)) :
    (o = none → ∃ c2, Goes j (tmOf r tn t e) c t c2 ∧ Rl7 e' c2) ∧ (∀ a, o = some a → Ends7 j (tmOf r tn t e) c a) := by
  unfold beh at hb
  obtain ⟨v0, m0, hb⟩ := Option.bind_eq_some_iff.mp hb
  obtain ⟨v1, m1, hb⟩ := Option.bind_eq_some_iff.mp hb
  obtain ⟨f0, u0, p0, q0⟩ := mean_rel h g.s0 m0
  obtain ⟨f1, u1, p1, q1⟩ := mean_rel h g.s1 m1
  have ends1 : ∀ {T : Tm} {a : Int}, gon T c = some (.stuck a) → Ends7 0 T c a := fun {T a} hs => ⟨1, by omega, fun s n => by rw [go_stuck hs]; simp⟩
  have goes1 : ∀ {T : Tm} {c2 : Ce}, gon T c = some (.step (.at_ t c2)) → Goes 1 T c t c2 := fun {T c2} hs => ⟨1, by omega, fun s n => by rw [go_step hs]⟩
  unfold tmOf
  cases hw : r.w with
  | lt =>
    simp only [hw, Option.some.injEq, Prod.mk.injEq] at hb ⊢
    obtain ⟨rfl, rfl, rfl⟩ := hb
    refine ⟨fun _ => ⟨setE c r.n0 u0, ⟨1, by omega, fun s n => ?_⟩, h.set _ q0⟩, fun a z => nomatch z⟩
    rw [go_move (T' := t) (c' := setE c r.n0 u0) (by simp [gon, p0])]
    simp
  | leave =>
    simp only [hw, Option.some.injEq, Prod.mk.injEq] at hb ⊢
    obtain ⟨rfl, rfl, rfl⟩ := hb
    exact ⟨fun _ => ⟨setE c r.n0 u0, goes1 (by simp [gon, p0, mn_last, mn_thn, mn_name, mn_fin, mn_halt]), h.set _ q0⟩, fun a z => nomatch z⟩
  | ask =>
    simp only [hw] at hb ⊢
    by_cases ha : r.a % 4 = 1
    · rw [if_pos ha] at hb ⊢
      simp only [Option.some.injEq, Prod.mk.injEq] at hb
      obtain ⟨rfl, rfl, rfl⟩ := hb
      refine ⟨(fun z => nomatch z), fun a z => ?_⟩
      cases z
      exact ends1 (by simp [gon, mn_last, mn_thn, mn_name, mn_fin, mn_halt])
    · rw [if_neg ha] at hb ⊢
      simp only [Option.some.injEq, Prod.mk.injEq] at hb
      obtain ⟨rfl, rfl, rfl⟩ := hb
      exact ⟨fun _ => ⟨c, goes1 (by simp [gon, mn_last, mn_thn, mn_name, mn_fin, mn_halt]), h⟩, fun a z => nomatch z⟩
  | pick =>
    simp only [hw] at hb ⊢
    rcases rv_num q0 f0 with ⟨n, rfl, rfl⟩ | ⟨h3, h4⟩
    · simp only [Option.some.injEq, Prod.mk.injEq] at hb
      obtain ⟨rfl, rfl, rfl⟩ := hb
      rw [m0]
      refine ⟨fun _ => ⟨c, ?_, h⟩, fun a z => nomatch z⟩
      by_cases hz : n = 0
      · subst hz
        rw [if_pos (show isN0 (some (Kv.num 0)) = true from rfl)]
        exact goes1 (by simp [gon, p0])
      · rw [if_neg (by simpa [isN0] using hz)]
        exact goes1 (by simp [gon, p0, hz])
    · have hb : some (some r.a, e, 0) = some (o, e', j) := by
        cases v0 <;> first | exact absurd rfl (h3 _) | exact hb
      simp only [Option.some.injEq, Prod.mk.injEq] at hb
      obtain ⟨rfl, rfl, rfl⟩ := hb
      refine ⟨(fun z => nomatch z), fun a z => ?_⟩
      cases z
      rw [if_neg (by rw [m0]; cases v0 <;> first | exact absurd rfl (h3 _) | simp [isN0])]
      refine ends1 ?_
      simp only [gon, p0, Option.bind_some]
  | plus =>
    simp only [hw] at hb ⊢
    by_cases hnn : ∃ m n, v0 = .num m ∧ v1 = .num n
    · obtain ⟨m, n, rfl, rfl⟩ := hnn
      cases q0; cases q1
      simp only [Rw.go, Option.some.injEq, Prod.mk.injEq] at hb
      obtain ⟨rfl, rfl, rfl⟩ := hb
      refine ⟨fun _ => ?_, fun a z => nomatch z⟩
      refine goes_step (u := .num (m + n)) g h rfl fun k l z e1 e2 e3 => ?_
      simp [gon, p0, p1, e1, e2, e3]
    · have hb : some (some r.a, e, 0) = some (o, e', j) := by
        cases v0 <;> cases v1 <;> first | exact absurd ⟨_, _, rfl, rfl⟩ hnn | exact hb
      simp only [Option.some.injEq, Prod.mk.injEq] at hb
      obtain ⟨rfl, rfl, rfl⟩ := hb
      refine ⟨(fun z => nomatch z), fun a z => ?_⟩
      cases z
      refine ends1 ?_
      simp only [gon, p0, p1, Option.bind_some]
      have : ¬ ∃ m n, u0 = .num m ∧ u1 = .num n := fun ⟨m, n, e0, e1⟩ => by
        rcases rv_num q0 f0 with ⟨n0, rfl, rfl⟩ | ⟨h3, h4⟩
        · rcases rv_num q1 f1 with ⟨n1, rfl, rfl⟩ | ⟨h5, h6⟩
          · exact hnn ⟨_, _, rfl, rfl⟩
          · exact h6 _ e1
        · exact h4 _ e0
      cases u0 <;> cases u1 <;> first | exact absurd ⟨_, _, rfl, rfl⟩ this | rfl
  | shut =>
    simp only [hw, Rw.go, Option.some.injEq, Prod.mk.injEq] at hb ⊢
    obtain ⟨rfl, rfl, rfl⟩ := hb
    refine ⟨fun _ => ?_, fun a z => nomatch z⟩
    refine goes_step (u := u0) g h q0 fun k l z e1 e2 e3 => ?_
    simp [gon, p0, e1, e2, e3]
  | pass =>
    simp only [hw, Rw.go, Option.some.injEq, Prod.mk.injEq] at hb ⊢
    obtain ⟨rfl, rfl, rfl⟩ := hb
    refine ⟨fun _ => ?_, fun a z => nomatch z⟩
    obtain ⟨k, l, T', c', h1, h2, h3, c2, t0, h4, h5, h6⟩ := handed_goes g h q0 t 0
    refine ⟨c2, ⟨t0 + 1, by omega, fun s n => ?_⟩, h5⟩
    rw [← Nat.add_assoc, go_move (T' := T') (c' := c') (by simp [gon, p0, h1, h2, h3]), h6]
    simp
  | hthn =>
    simp only [hw] at hb ⊢
    obtain ⟨v, m2, hb⟩ := Option.bind_eq_some_iff.mp hb
    simp only [Option.some.injEq, Prod.mk.injEq] at hb
    obtain ⟨rfl, rfl, rfl⟩ := hb
    refine ⟨fun _ => ?_, fun a z => nomatch z⟩
    have r1 : Rl7 e (setE c "H1" (.thn r.n0 r.n1 t c)) := h.more hH _
    obtain ⟨_, w1, x1, y1⟩ := mean_rel r1 g.s1 m1
    have r2 : Rl7 (kset e tn v1) (setE (setE c "H1" (.thn r.n0 r.n1 t c)) tn w1) := r1.set tn y1
    obtain ⟨_, w2, x2, y2⟩ := mean_rel r2 (g.s0.later tn f1) m2
    refine ⟨setE (setE c r.n0 w2) r.n1 .fin, ⟨3, by omega, fun s n => ?_⟩, (h.set _ y2).set _ (v := .fin) trivial⟩
    have gh : getE (setE (setE c "H1" (.thn r.n0 r.n1 t c)) tn w1) "H1" = some (.thn r.n0 r.n1 t c) := by
      rw [getE_set, if_neg (fun z => g.ht z.symm), getE_set, if_pos rfl]
    rw [show s + 3 = s + 2 + 1 from rfl, go_move (T' := .lt tn r.s1 (.pass (.name "H1") r.s0 .fin)) (c' := setE c "H1" (.thn r.n0 r.n1 t c)) (by simp [gon, mn_last, mn_thn, mn_name, mn_fin, mn_halt]),
      show s + 2 = s + 1 + 1 from rfl, go_move (T' := .pass (.name "H1") r.s0 .fin) (c' := setE (setE c "H1" (.thn r.n0 r.n1 t c)) tn w1) (by simp [gon, x1]),
      go_move (T' := t) (c' := setE (setE c r.n0 w2) r.n1 .fin) (by simp [gon, x2, mn_last, mn_thn, mn_name, mn_fin, mn_halt, gh, goi])]
    simp
  | hlast =>
    simp only [hw] at hb ⊢
    obtain ⟨v, m2, hb⟩ := Option.bind_eq_some_iff.mp hb
    simp only [Option.some.injEq, Prod.mk.injEq] at hb
    obtain ⟨rfl, rfl, rfl⟩ := hb
    refine ⟨fun _ => ?_, fun a z => nomatch z⟩
    have r1 : Rl7 e (setE c "H1" (.last r.n0 t c)) := h.more hH _
    obtain ⟨_, w1, x1, y1⟩ := mean_rel r1 g.s1 m1
    have r2 : Rl7 (kset e tn v1) (setE (setE c "H1" (.last r.n0 t c)) tn w1) := r1.set tn y1
    obtain ⟨_, w2, x2, y2⟩ := mean_rel r2 (g.s0.later tn f1) m2
    refine ⟨setE c r.n0 w2, ⟨3, by omega, fun s n => ?_⟩, h.set _ y2⟩
    have gh : getE (setE (setE c "H1" (.last r.n0 t c)) tn w1) "H1" = some (.last r.n0 t c) := by
      rw [getE_set, if_neg (fun z => g.ht z.symm), getE_set, if_pos rfl]
    rw [show s + 3 = s + 2 + 1 from rfl, go_move (T' := .lt tn r.s1 (.leave (.name "H1") r.s0)) (c' := setE c "H1" (.last r.n0 t c)) (by simp [gon, mn_last, mn_thn, mn_name, mn_fin, mn_halt]),
      show s + 2 = s + 1 + 1 from rfl, go_move (T' := .leave (.name "H1") r.s0) (c' := setE (setE c "H1" (.last r.n0 t c)) tn w1) (by simp [gon, x1]),
      go_step (T' := t) (c' := setE c r.n0 w2) (by simp [gon, x2, mn_last, mn_thn, mn_name, mn_fin, mn_halt, gh])]
  | call =>
    simp only [hw] at hb ⊢
    cases v0 with
    | fin => exact absurd rfl f0
    | num n =>
      simp only [Option.some.injEq, Prod.mk.injEq] at hb
      obtain ⟨rfl, rfl, rfl⟩ := hb
      cases q0
      refine ⟨(fun z => nomatch z), fun a z => ?_⟩
      cases z
      exact ends1 (by simp [gon, p0])
    | code fn a =>
      simp only [Rw.go, Option.some.injEq, Prod.mk.injEq] at hb
      obtain ⟨rfl, rfl, rfl⟩ := hb
      obtain ⟨c3, rfl⟩ := q0
      refine ⟨fun _ => ?_, fun a z => nomatch z⟩
      obtain ⟨k, l, T', c', h1, h2, h3, c2, t0, h4, h5, h6⟩ := handed_goes g h q1 t 1
      have hb := bound_le r e v1 1
      refine ⟨c2, ⟨t0 + 1 + 1, by omega, fun s n => ?_⟩, h5⟩
      rw [show s + (t0 + 1 + 1) = s + t0 + 1 + 1 from by omega, go_step (T' := .pass (.name "k") (.name "x") (.name "g")) (c' := setE (setE (setE c3 "x" u1) "k" k) "g" l) (by simp [gon, p0, p1, h1, h2])]
      by_cases hn : n < 1
      · rw [if_pos hn, if_pos (by omega)]
      · rw [if_neg hn]
        have gk : getE (setE (setE (setE c3 "x" u1) "k" k) "g" l) "k" = some k := by
          rw [getE_set, if_neg (by decide +kernel), getE_set, if_pos rfl]
        have gx : getE (setE (setE (setE c3 "x" u1) "k" k) "g" l) "x" = some u1 := by
          rw [getE_set, if_neg (by decide +kernel), getE_set, if_neg (by decide +kernel), getE_set, if_pos rfl]
        have gg : getE (setE (setE (setE c3 "x" u1) "k" k) "g" l) "g" = some l := by
          rw [getE_set, if_pos rfl]
        rw [go_move (T' := T') (c' := c') (by simp [gon, mn_last, mn_thn, mn_name, mn_fin, mn_halt, gk, gx, gg, h3]), h6]
        by_cases hm : n - 1 < (bound r e v1 1).2 - 1
        · rw [if_pos hm, if_pos (by omega)]
        · rw [if_neg hm, if_neg (by omega)]
          congr 1
          omega
    | codeP fn a b v =>
      obtain ⟨c3, o3, w, rfl, d1, d2, d3, d4, d5, d6⟩ := q0
      simp only at hb
      have gx : ∀ k l, getE (setE (setE (setE c3 "x" u1) "k" k) "g" l) "x" = some u1 := fun k l => by
        rw [getE_set, if_neg (by decide +kernel), getE_set, if_neg (by decide +kernel), getE_set, if_pos rfl]
      have go : ∀ k l, getE (setE (setE (setE c3 "x" u1) "k" k) "g" l) o3 = some w := fun k l => by
        rw [getE_set, if_neg d3, getE_set, if_neg d2, getE_set, if_neg d1, d4]
      by_cases hnn : ∃ m n, v1 = .num m ∧ v = .num n
      · obtain ⟨m, n, rfl, rfl⟩ := hnn
        cases q1; cases d6
        simp only [Rw.go, Option.some.injEq, Prod.mk.injEq] at hb
        obtain ⟨rfl, rfl, rfl⟩ := hb
        refine ⟨fun _ => ?_, fun a z => nomatch z⟩
        obtain ⟨k, l, T', c', h1, h2, h3, c2, t0, h4, h5, h6⟩ := handed_goes (v := .num (m + n)) (u := .num (m + n)) g h rfl t 2
        have hb := bound_le r e (.num (m + n)) 2
        refine ⟨c2, ⟨t0 + 1 + 1, by omega, fun s i => ?_⟩, h5⟩
        have gk : getE (setE (setE (setE c3 "x" (.num m)) "k" k) "g" l) "k" = some k := by
          rw [getE_set, if_neg (by decide +kernel), getE_set, if_pos rfl]
        have gg : getE (setE (setE (setE c3 "x" (.num m)) "k" k) "g" l) "g" = some l := by
          rw [getE_set, if_pos rfl]
        rw [show s + (t0 + 1 + 1) = s + t0 + 1 + 1 from by omega, go_step (T' := .plus b (.name "x") (.name o3) (.name "k") (.name "g")) (c' := setE (setE (setE c3 "x" (.num m)) "k" k) "g" l) (by simp [gon, p0, p1, h1, h2])]
        by_cases hn : i < 1
        · rw [if_pos hn, if_pos (by omega)]
        · rw [if_neg hn, go_step (T' := T') (c' := c') (by simp [gon, mn_last, mn_thn, mn_name, mn_fin, mn_halt, gk, gx, gg, go, h3]), h6]
          by_cases hn2 : i - 1 < 1
          · rw [if_pos hn2, if_pos (by omega)]
          · rw [if_neg hn2]
            by_cases hm : i - 1 - 1 < (bound r e (.num (m + n)) 2).2 - 2
            · rw [if_pos hm, if_pos (by omega)]
            · rw [if_neg hm, if_neg (by omega)]
              congr 1
              omega
      · have hb : some (some b, e, 1) = some (o, e', j) := by
          cases v1 <;> cases v <;> first | exact absurd ⟨_, _, rfl, rfl⟩ hnn | exact hb
        simp only [Option.some.injEq, Prod.mk.injEq] at hb
        obtain ⟨rfl, rfl, rfl⟩ := hb
        refine ⟨(fun z => nomatch z), fun a z => ?_⟩
        cases z
        obtain ⟨k, l, T', c', h1, h2, h3, _⟩ := handed_goes g h q1 t 1
        refine ⟨2, by omega, fun s n => ?_⟩
        rw [show s + 2 = s + 1 + 1 from rfl, go_step (T' := .plus b (.name "x") (.name o3) (.name "k") (.name "g")) (c' := setE (setE (setE c3 "x" u1) "k" k) "g" l) (by simp [gon, p0, p1, h1, h2])]
        by_cases hn : n < 1
        · rw [if_pos hn, if_pos hn]
        · rw [if_neg hn, if_neg hn]
          refine go_stuck ?_ _ _
          simp only [gon, mn_last, mn_thn, mn_name, mn_fin, mn_halt, gx, go, Option.bind_some]
          have : ¬ ∃ m n, u1 = .num m ∧ w = .num n := fun ⟨m, n, e0, e1⟩ => by
            rcases rv_num q1 f1 with ⟨n0, rfl, rfl⟩ | ⟨h3, h4⟩
            · rcases rv_num d6 d5 with ⟨n1, rfl, rfl⟩ | ⟨h5, h6⟩
              · exact hnn ⟨_, _, rfl, rfl⟩
              · exact h6 _ e1
            · exact h4 _ e0
          cases u1 <;> cases w <;> first | exact absurd ⟨_, _, rfl, rfl⟩ this | rfl
end Cb
namespace Cb
open PySem PySem.Spec PyProof.Rows L2
def trnd (r : Rw) (e : Kn) : Str := ((sortS (knm e)) ++ [("c" : Str)])[(r.a % ((e.length : Int) + 1)).toNat]?.getD "c"
theorem trnd_H1 {r : Rw} {e : Kn} (h : ("H1" : Str) ∉ knm e) : trnd r e ≠ "H1" := by
  unfold trnd
  cases q : ((sortS (knm e)) ++ [("c" : Str)])[(r.a % ((e.length : Int) + 1)).toNat]? with
  | none => decide +kernel
  | some x =>
    have hm := List.mem_of_getElem? q
    rcases List.mem_append.mp hm with m | m
    · have := (sortS_perm (knm e)).mem_iff.mp m
      exact fun z => h (z ▸ this)
    · rw [List.mem_singleton] at m
      rw [m]
      decide +kernel
theorem beh_names {r : Rw} {tn : Str} {e e' : Kn} {o : Option Int} {j : Nat} (hb : beh r tn e = some (o, e', j)) : e'.length ≤ e.length + 2 ∧ ∀ x ∈ knm e', x = r.n0 ∨ x = r.n1 ∨ x ∈ knm e := by
  have s1 : ∀ v, (kset e r.n0 v).length ≤ e.length + 2 ∧ ∀ x ∈ knm (kset e r.n0 v), x = r.n0 ∨ x = r.n1 ∨ x ∈ knm e := fun v => by
    refine ⟨by have := kset_len r.n0 v e; omega, fun x hx => ?_⟩
    rcases kset_mem hx with h | h
    · exact .inl h
    · exact .inr (.inr h)
  have s2 : ∀ v w, (kset (kset e r.n0 v) r.n1 w).length ≤ e.length + 2 ∧ ∀ x ∈ knm (kset (kset e r.n0 v) r.n1 w), x = r.n0 ∨ x = r.n1 ∨ x ∈ knm e := fun v w => by
    refine ⟨by have := kset_len r.n0 v e; have := kset_len r.n1 w (kset e r.n0 v); omega, fun x hx => ?_⟩
    rcases kset_mem hx with h | h
    · exact .inr (.inl h)
    · exact (s1 v).2 x h
  have s0 : e.length ≤ e.length + 2 ∧ ∀ x ∈ knm e, x = r.n0 ∨ x = r.n1 ∨ x ∈ knm e := ⟨by omega, fun x hx => .inr (.inr hx)⟩
  have sb : ∀ v j, (bound r e v j).1.length ≤ e.length + 2 ∧ ∀ x ∈ knm (bound r e v j).1, x = r.n0 ∨ x = r.n1 ∨ x ∈ knm e := fun v j => by
    unfold bound
    split
    · exact s1 v
    · exact s2 v .fin
  unfold beh at hb
  obtain ⟨v0, m0, hb⟩ := Option.bind_eq_some_iff.mp hb
  obtain ⟨v1, m1, hb⟩ := Option.bind_eq_some_iff.mp hb
  cases hw : r.w with
  | lt => simp only [hw, Option.some.injEq, Prod.mk.injEq] at hb; obtain ⟨_, rfl, _⟩ := hb; exact s1 _
  | leave => simp only [hw, Option.some.injEq, Prod.mk.injEq] at hb; obtain ⟨_, rfl, _⟩ := hb; exact s1 _
  | pass => simp only [hw, Rw.go, Option.some.injEq, Prod.mk.injEq] at hb; obtain ⟨_, rfl, _⟩ := hb; exact sb _ _
  | shut => simp only [hw, Rw.go, Option.some.injEq, Prod.mk.injEq] at hb; obtain ⟨_, rfl, _⟩ := hb; exact sb _ _
  | ask =>
    simp only [hw] at hb
    split at hb <;> (simp only [Option.some.injEq, Prod.mk.injEq] at hb; obtain ⟨_, rfl, _⟩ := hb; exact s0)
  | hthn =>
    simp only [hw] at hb
    obtain ⟨v, _, hb⟩ := Option.bind_eq_some_iff.mp hb
    simp only [Option.some.injEq, Prod.mk.injEq] at hb; obtain ⟨_, rfl, _⟩ := hb; exact s2 _ _
  | hlast =>
    simp only [hw] at hb
    obtain ⟨v, _, hb⟩ := Option.bind_eq_some_iff.mp hb
    simp only [Option.some.injEq, Prod.mk.injEq] at hb; obtain ⟨_, rfl, _⟩ := hb; exact s1 _
  | plus =>
    simp only [hw] at hb
    split at hb <;> (simp only [Rw.go, Option.some.injEq, Prod.mk.injEq] at hb; obtain ⟨_, rfl, _⟩ := hb; first | exact sb _ _ | exact s0)
  | pick =>
    simp only [hw] at hb
    split at hb <;> (simp only [Option.some.injEq, Prod.mk.injEq] at hb; obtain ⟨_, rfl, _⟩ := hb; exact s0)
  | call =>
    simp only [hw] at hb
    split at hb
    · simp only [Rw.go, Option.some.injEq, Prod.mk.injEq] at hb; obtain ⟨_, rfl, _⟩ := hb; exact sb _ _
    · split at hb <;> (simp only [Rw.go, Option.some.injEq, Prod.mk.injEq] at hb; obtain ⟨_, rfl, _⟩ := hb; first | exact sb _ _ | exact s0)
    · simp only [Option.some.injEq, Prod.mk.injEq] at hb; obtain ⟨_, rfl, _⟩ := hb; exact s0
theorem beh_some {r : Rw} {tn : Str} {e : Kn} (g : Gd7 r tn e) : ∃ o e' j, beh r tn e = some (o, e', j) := by
  obtain ⟨v0, m0, f0⟩ := g.s0.mean
  obtain ⟨v1, m1, f1⟩ := g.s1.mean
  obtain ⟨v2, m2, _⟩ := (g.s0.later tn f1).mean
  unfold beh
  rw [m0, m1]
  simp only [Option.bind_some]
  cases hw : r.w with
  | lt => exact ⟨_, _, _, rfl⟩
  | leave => exact ⟨_, _, _, rfl⟩
  | pass => exact ⟨_, _, _, rfl⟩
  | shut => exact ⟨_, _, _, rfl⟩
  | ask => simp only; split <;> exact ⟨_, _, _, rfl⟩
  | hthn => simp only [m2]; exact ⟨_, _, _, rfl⟩
  | hlast => simp only [m2]; exact ⟨_, _, _, rfl⟩
  | plus => simp only; split <;> exact ⟨_, _, _, rfl⟩
  | pick => simp only; split <;> exact ⟨_, _, _, rfl⟩
  | call =>
    simp only
    split
    · exact ⟨_, _, _, rfl⟩
    · split <;> exact ⟨_, _, _, rfl⟩
    · exact ⟨_, _, _, rfl⟩
/-- the rows, one behind the other; behind the last: what is known, or stuck -/
inductive Ch : List Rw → Kn → Option Kn → Prop
  | nil (e : Kn) : Ch [] e (some e)
  | go {r : Rw} {rs : List Rw} {e e' : Kn} {j : Nat} {f : Option Kn} : Gd7 r (trnd r e) e → beh r (trnd r e) e = some (none, e', j) → Ch rs e' f → Ch (r :: rs) e f
  | stuck {r : Rw} {e e' : Kn} {a : Int} {j : Nat} : Gd7 r (trnd r e) e → beh r (trnd r e) e = some (some a, e', j) → Ch [r] e none
theorem Ch.nil_of {r : Rw} {rs : List Rw} {e e' : Kn} {f : Option Kn} {a : Int} {j : Nat} (c : Ch (r :: rs) e f) (hb : beh r (trnd r e) e = some (some a, e', j)) : rs = [] ∧ f = none := by
  cases c with
  | go g hb' c => rw [hb] at hb'; simp at hb'
  | stuck g hb' => exact ⟨rfl, rfl⟩
def ansK : Kv → Option Rs
  | .num n => some (.number n)
  | .code fn a => some (if fn = true then .func a else .kept a)
  | .codeP fn a _ _ => some (if fn = true then .func a else .kept a)
  | .fin => none
theorem ans_rv {v : Kv} {u : Cl} (h : RV v u) (hn : v ≠ .fin) : ansC u = ansK v := by
  cases v with
  | num n => cases h; rfl
  | code fn a => obtain ⟨c, rfl⟩ := h; cases fn <;> rfl
  | codeP fn a b v => obtain ⟨c, o, w, rfl, _⟩ := h; cases fn <;> rfl
  | fin => exact absurd rfl hn
theorem ansK_some {v : Kv} (hn : v ≠ .fin) : ∃ r, ansK v = some r := by
  cases v with
  | fin => exact absurd rfl hn
  | _ => exact ⟨_, rfl⟩
def dueR : List Rw → Kn → Nat → Tm → Option Rs
  | [], e, _, last => (meanK last e).bind ansK
  | r :: rs, e, n, last => (beh r (trnd r e) e).bind fun b => if n < b.2.2 then some .dry else match b.1 with
    | some a => some (.stuck a)
    | none => dueR rs b.2.1 (n - b.2.2) last
def tmAll : List Rw → Kn → Tm → Tm
  | [], _, last => .pass .halt last .fin
  | r :: rs, e, last => tmOf r (trnd r e) (tmAll rs (((beh r (trnd r e) e).map fun b => b.2.1).getD []) last) e
theorem tmAll_cons {r : Rw} {rs : List Rw} {e e' : Kn} {o : Option Int} {j : Nat} {last : Tm} (hb : beh r (trnd r e) e = some (o, e', j)) : tmAll (r :: rs) e last = tmOf r (trnd r e) (tmAll rs e' last) e := by
  rw [tmAll, hb]; rfl
theorem H1_step {r : Rw} {tn : Str} {e e' : Kn} {o : Option Int} {j : Nat} (g : Gd7 r tn e) (hH : ("H1" : Str) ∉ knm e) (hb : beh r tn e = some (o, e', j)) : ("H1" : Str) ∉ knm e' := fun z => by
  rcases (beh_names hb).2 _ z with h | h | h
  · exact g.h0 h.symm
  · exact g.h1 h.symm
  · exact hH h
theorem run_rows {last : Tm} {rs : List Rw} {e : Kn} {f : Option Kn} (ch : Ch rs e f) : ∀ {c : Ce} {n : Nat} {res : Rs}, Rl7 e c → ("H1" : Str) ∉ knm e → (∀ e', f = some e' → Sk7 e' last) → dueR rs e n last = some res →
    prun (6 * rs.length + 2) n (tmAll rs e last) c = some res := by
  induction ch with
  | nil e =>
    intro c n res h hH hl hd
    obtain ⟨v, hv, ha⟩ := Option.bind_eq_some_iff.mp (show (meanK last e).bind ansK = some res from hd)
    obtain ⟨hn, u, hu, ru⟩ := mean_rel h (hl e rfl) hv
    have hg : gon (.pass .halt last .fin) c = some (.move (.told u)) := by simp [gon, mn_halt, mn_fin, hu, goi]
    show prun 2 n (.pass .halt last .fin) c = _
    rw [prun, hg]
    show ansC u = _
    rw [ans_rv ru hn, ha]
  | @go r rs e e' j f g hb ch ih =>
    intro c n res h hH hl hd
    rw [tmAll_cons hb]
    obtain ⟨c2, ⟨t0, ht, hg⟩, h2⟩ := (row_goes (tmAll rs e' last) g h hH hb).1 rfl
    rw [dueR, hb] at hd
    simp only [Option.bind_some] at hd
    have e1 : 6 * (r :: rs).length + 2 = (6 * rs.length + 2 + (6 - t0)) + t0 := by rw [List.length_cons]; omega
    rw [e1, hg]
    by_cases hn : n < j
    · rw [if_pos hn] at hd ⊢; exact hd
    · rw [if_neg hn] at hd ⊢
      exact prun_more (ih h2 (H1_step g hH hb) hl hd) (by omega)
  | @stuck r e e' a j g hb =>
    intro c n res h hH hl hd
    rw [tmAll_cons hb]
    obtain ⟨t0, ht, hg⟩ := (row_goes (tmAll [] e' last) g h hH hb).2 a rfl
    rw [dueR, hb] at hd
    simp only [Option.bind_some] at hd
    have e1 : 6 * [r].length + 2 = (2 + (6 - t0)) + t0 := by simp; omega
    rw [e1, hg]
    exact hd
/-! the law's second going along -/
def nxt (fu : Nat) (c j : Nat) (due : Option Rs) (o : Option Int) : Option Rs := match due with
  | some d => some d
  | none => if 0 < j ∧ fu < c + j then some .dry else o.map .stuck
def lp2 (fu : Nat) : List Rw → Kn → Option Rs → Nat → Option (Kn × Option Rs × Nat)
  | [], e, due, c => some (e, due, c)
  | r :: rs, e, due, c => (beh r (trnd r e) e).bind fun b => lp2 fu rs b.2.1 (nxt fu c b.2.2 due b.1) (c + b.2.2)
theorem lp2_due {fu : Nat} : ∀ {rs : List Rw} {e : Kn} {d : Rs} {c : Nat} {x : Kn × Option Rs × Nat}, lp2 fu rs e (some d) c = some x → x.2.1 = some d
  | [], _, _, _, _, h => by cases h; rfl
  | r :: rs, e, d, c, x, h => by
    obtain ⟨b, hb, h⟩ := Option.bind_eq_some_iff.mp (show (beh r (trnd r e) e).bind _ = _ from h)
    exact lp2_due h
theorem lp2_some {fu : Nat} {rs : List Rw} {e : Kn} {f : Option Kn} (ch : Ch rs e f) : ∀ (due : Option Rs) (c : Nat), ∃ x, lp2 fu rs e due c = some x := by
  induction ch with
  | nil e => exact fun due c => ⟨_, rfl⟩
  | go g hb ch ih =>
    intro due c
    rw [lp2, hb]
    exact ih _ _
  | stuck g hb =>
    intro due c
    rw [lp2, hb]
    exact ⟨_, rfl⟩
theorem lp2_is {fu : Nat} {last : Tm} {rs : List Rw} {e : Kn} {f : Option Kn} (ch : Ch rs e f) : ∀ {c : Nat} {x : Kn × Option Rs × Nat}, c ≤ fu → lp2 fu rs e none c = some x →
    (dueR rs e (fu - c) last = match x.2.1 with | some d => some d | none => (meanK last x.1).bind ansK) ∧ (x.2.1 = none → f = some x.1) := by
  induction ch with
  | nil e =>
    intro c x hc h
    cases h
    exact ⟨rfl, fun _ => rfl⟩
  | @go r rs e e' j f g hb ch ih =>
    intro c x hc h
    rw [lp2, hb] at h
    simp only [Option.bind_some, nxt] at h
    rw [dueR, hb]
    simp only [Option.bind_some]
    by_cases hn : fu - c < j
    · rw [if_pos (⟨by omega, by omega⟩ : 0 < j ∧ fu < c + j)] at h
      have := lp2_due h
      rw [this, if_pos hn]
      exact ⟨rfl, fun z => nomatch z⟩
    · rw [if_neg (by omega : ¬ (0 < j ∧ fu < c + j))] at h
      rw [if_neg hn]
      have := ih (c := c + j) (by omega) h
      rw [show fu - (c + j) = fu - c - j from by omega] at this
      exact this
  | @stuck r e e' a j g hb =>
    intro c x hc h
    rw [lp2, hb] at h
    simp only [Option.bind_some, nxt] at h
    rw [dueR, hb]
    simp only [Option.bind_some]
    by_cases hn : fu - c < j
    · rw [if_pos (⟨by omega, by omega⟩ : 0 < j ∧ fu < c + j)] at h
      cases h
      rw [if_pos hn]
      exact ⟨rfl, fun z => nomatch z⟩
    · rw [if_neg (by omega : ¬ (0 < j ∧ fu < c + j))] at h
      cases h
      rw [if_neg hn]
      exact ⟨rfl, fun z => nomatch z⟩
end Cb
namespace Cb
open PySem PySem.Spec PyProof.Rows L2
inductive Nm where
  | is_whole | meant | with_names | going_on | called_with | summed | chosen_of | gone_on | told_of | run_plain | _law_cell_at | _law_mixed | _law_fresh | _law_simple_by | _law_meant | _law_code_by | _law_row | _law_known_after | _law_bound | _law_called | _law_turned | _law_held | _law_behind | _law_held_term | _law_handed | _law_picked | _law_term | _law_end | _law_usable
abbrev Fns := Nm → Fn
abbrev b_is_whole (F : Fns) : B :=
  (sRet (eAnd (eIsi "int" (eVar 0)) (eNot (eIsi "bool" (eVar 0)))))
abbrev b_meant (F : Fns) : B :=
  (sSeq (sIf (tOf (eOp (dEq 64) (eOp dIx (eVar 0) (eC (.int 0))) (eC (.str "name")))) (sRet (eOp dGet (eVar 1) (eOp dIx (eVar 0) (eC (.int 1))))) sNext)
  (sSeq (sIf (tfOr (tOf (eOp (dEq 64) (eOp dIx (eVar 0) (eC (.int 0))) (eC (.str "code")))) (tfOr (tOf (eOp (dEq 64) (eOp dIx (eVar 0) (eC (.int 0))) (eC (.str "then")))) (tOf (eOp (dEq 64) (eOp dIx (eVar 0) (eC (.int 0))) (eC (.str "last")))))) (sRet (eOp dAdd (eVar 0) (eTup (aCons (eVar 1) aNil)))) sNext)
  (sRet (eVar 0))))
abbrev b_with_names (F : Fns) : B :=
  (sSeq (sSet 3 (eDM (ddCopy (aCons (eVar 0) aNil))))
  (sSeq (sFor (iZip (eVar 1) (eVar 2)) (gdTup 2 (gsCons (gdName 4) (gsCons (gdName 5) gsNil))) (sDput (eVar 5) (eVar 3) (eVar 4)))
  (sRet (eVar 3))))
abbrev b_going_on (F : Fns) : B :=
  (sSeq (sIf (tOf (eOp (dEq 64) (eOp dIx (eVar 0) (eC (.int 0))) (eC (.str "halt")))) (sRet (eTup (aCons (eC (.str "told")) (aCons (eVar 1) aNil)))) sNext)
  (sRet (eTup (aCons (eC (.str "move")) (aCons (eTup (aCons (eOp dIx (eVar 0) (eC (.int 3))) (aCons (eCall 3 (F .with_names) (aCons (eOp dIx (eVar 0) (eC (.int 4))) (aCons (eL (lDisp (aCons (eOp dIx (eVar 0) (eC (.int 1))) (aCons (eOp dIx (eVar 0) (eC (.int 2))) aNil)))) (aCons (eL (lDisp (aCons (eVar 1) (aCons (eVar 2) aNil)))) aNil)))) aNil))) aNil)))))
abbrev b_called_with (F : Fns) : B :=
  (sSeq (sSet 2 (eCall 2 (F .meant) (aCons (eOp dIx (eVar 0) (eC (.int 2))) (aCons (eVar 1) aNil))))
  (sSeq (sIf (tOf (eOp (dNe 64) (eOp dIx (eVar 2) (eC (.int 0))) (eC (.str "code")))) (sRet (eTup (aCons (eC (.str "stuck")) (aCons (eOp dIx (eVar 0) (eC (.int 1))) aNil)))) sNext)
  (sSeq (sSet 3 (eL (aLc (iTupD (eSlice (eVar 0) (ptS (eC (.int 3))) ptN)) (gdName 4) tTrue (eCall 2 (F .meant) (aCons (eVar 4) (aCons (eVar 1) aNil))) [4])))
  (sRet (eTup (aCons (eC (.str "step")) (aCons (eTup (aCons (eOp dIx (eVar 2) (eC (.int 6))) (aCons (eCall 3 (F .with_names) (aCons (eOp dIx (eVar 2) (eC (.int 7))) (aCons (eL (lDisp (aCons (eOp dIx (eVar 2) (eC (.int 3))) (aCons (eOp dIx (eVar 2) (eC (.int 4))) (aCons (eOp dIx (eVar 2) (eC (.int 5))) aNil))))) (aCons (eVar 3) aNil)))) aNil))) aNil)))))))
abbrev b_summed (F : Fns) : B :=
  (sSeq (sSet 2 (eCall 2 (F .meant) (aCons (eOp dIx (eVar 0) (eC (.int 2))) (aCons (eVar 1) aNil))))
  (sSeq (sSet 3 (eCall 2 (F .meant) (aCons (eOp dIx (eVar 0) (eC (.int 3))) (aCons (eVar 1) aNil))))
  (sSeq (sIf (tfOr (tOf (eOp (dNe 64) (eOp dIx (eVar 2) (eC (.int 0))) (eC (.str "num")))) (tOf (eOp (dNe 64) (eOp dIx (eVar 3) (eC (.int 0))) (eC (.str "num"))))) (sRet (eTup (aCons (eC (.str "stuck")) (aCons (eOp dIx (eVar 0) (eC (.int 1))) aNil)))) sNext)
  (sSeq (sSet 4 (eTup (aCons (eC (.str "num")) (aCons (eOp dAdd (eOp dIx (eVar 2) (eC (.int 1))) (eOp dIx (eVar 3) (eC (.int 1)))) aNil))))
  (sSeq (sAsg (eCall 3 (F .going_on) (aCons (eCall 2 (F .meant) (aCons (eOp dIx (eVar 0) (eC (.int 4))) (aCons (eVar 1) aNil))) (aCons (eVar 4) (aCons (eCall 2 (F .meant) (aCons (eOp dIx (eVar 0) (eC (.int 5))) (aCons (eVar 1) aNil))) aNil)))) (gdTup 2 (gsCons (gdName 5) (gsCons (gdName 6) gsNil))))
  (sRet (eTup (aCons (eOp dAdd (eC (.str "step ")) (eVar 5)) (aCons (eVar 6) aNil)))))))))
abbrev b_chosen_of (F : Fns) : B :=
  (sSeq (sSet 2 (eCall 2 (F .meant) (aCons (eOp dIx (eVar 0) (eC (.int 2))) (aCons (eVar 1) aNil))))
  (sSeq (sIf (tOf (eOp (dNe 64) (eOp dIx (eVar 2) (eC (.int 0))) (eC (.str "num")))) (sRet (eTup (aCons (eC (.str "stuck")) (aCons (eOp dIx (eVar 0) (eC (.int 1))) aNil)))) sNext)
  (sRet (eTup (aCons (eC (.str "step")) (aCons (eTup (aCons (eIf (tOf (eOp (dEq 64) (eOp dIx (eVar 2) (eC (.int 1))) (eC (.int 0)))) (eOp dIx (eVar 0) (eC (.int 3))) (eOp dIx (eVar 0) (eC (.int 4)))) (aCons (eVar 1) aNil))) aNil))))))
def b_gone_on_t9 (F : Fns) : B :=
  (sRet (eTup (aCons (eC (.str "step")) (aCons (eTup (aCons (eOp dIx (eVar 0) (eC (.int 3))) (aCons (eVar 1) aNil))) aNil))))
def b_gone_on_t8 (F : Fns) : B :=
  (sSeq (sIf (tOf (eOp (dEq 64) (eOp dIx (eCall 2 (F .meant) (aCons (eOp dIx (eVar 0) (eC (.int 2))) (aCons (eVar 1) aNil))) (eC (.int 0))) (eC (.str "end")))) (sRet (eTup (aCons (eC (.str "stuck")) (aCons (eOp dIx (eVar 0) (eC (.int 1))) aNil)))) sNext)
  (b_gone_on_t9 F))
def b_gone_on_t7 (F : Fns) : B :=
  (sSeq (sIf (tOf (eOp (dEq 64) (eVar 2) (eC (.str "pick")))) (sRet (eCall 2 (F .chosen_of) (aCons (eVar 0) (aCons (eVar 1) aNil)))) sNext)
  (b_gone_on_t8 F))
def b_gone_on_t6 (F : Fns) : B :=
  (sSeq (sIf (tOf (eOp (dEq 64) (eVar 2) (eC (.str "plus")))) (sRet (eCall 2 (F .summed) (aCons (eVar 0) (aCons (eVar 1) aNil)))) sNext)
  (b_gone_on_t7 F))
def b_gone_on_t5 (F : Fns) : B :=
  (sSeq (sIf (tOf (eOp (dEq 64) (eVar 2) (eC (.str "call")))) (sRet (eCall 2 (F .called_with) (aCons (eVar 0) (aCons (eVar 1) aNil)))) sNext)
  (b_gone_on_t6 F))
def b_gone_on_t4 (F : Fns) : B :=
  (sSeq (sIf (tOf (eOp (dEq 64) (eVar 2) (eC (.str "shut")))) (sSeq (sAsg (eCall 3 (F .going_on) (aCons (eCall 2 (F .meant) (aCons (eOp dIx (eVar 0) (eC (.int 2))) (aCons (eVar 1) aNil))) (aCons (eCall 2 (F .meant) (aCons (eOp dIx (eVar 0) (eC (.int 1))) (aCons (eVar 1) aNil))) (aCons (eCall 2 (F .meant) (aCons (eOp dIx (eVar 0) (eC (.int 3))) (aCons (eVar 1) aNil))) aNil)))) (gdTup 2 (gsCons (gdName 2) (gsCons (gdName 4) gsNil))))
  (sRet (eTup (aCons (eOp dAdd (eC (.str "step ")) (eVar 2)) (aCons (eVar 4) aNil))))) sNext)
  (b_gone_on_t5 F))
def b_gone_on_t3 (F : Fns) : B :=
  (sSeq (sIf (tOf (eOp (dEq 64) (eVar 2) (eC (.str "leave")))) (sSeq (sSet 3 (eCall 2 (F .meant) (aCons (eOp dIx (eVar 0) (eC (.int 1))) (aCons (eVar 1) aNil))))
  (sRet (eTup (aCons (eC (.str "step")) (aCons (eTup (aCons (eOp dIx (eVar 3) (eC (.int 2))) (aCons (eCall 3 (F .with_names) (aCons (eOp dIx (eVar 3) (eC (.int 3))) (aCons (eL (lDisp (aCons (eOp dIx (eVar 3) (eC (.int 1))) aNil))) (aCons (eL (lDisp (aCons (eCall 2 (F .meant) (aCons (eOp dIx (eVar 0) (eC (.int 2))) (aCons (eVar 1) aNil))) aNil))) aNil)))) aNil))) aNil))))) sNext)
  (b_gone_on_t4 F))
def b_gone_on_t2 (F : Fns) : B :=
  (sSeq (sIf (tOf (eOp (dEq 64) (eVar 2) (eC (.str "let")))) (sRet (eTup (aCons (eC (.str "move")) (aCons (eTup (aCons (eOp dIx (eVar 0) (eC (.int 3))) (aCons (eCall 3 (F .with_names) (aCons (eVar 1) (aCons (eL (lDisp (aCons (eOp dIx (eVar 0) (eC (.int 1))) aNil))) (aCons (eL (lDisp (aCons (eCall 2 (F .meant) (aCons (eOp dIx (eVar 0) (eC (.int 2))) (aCons (eVar 1) aNil))) aNil))) aNil)))) aNil))) aNil)))) sNext)
  (b_gone_on_t3 F))
def b_gone_on_t1 (F : Fns) : B :=
  (sSeq (sIf (tOf (eOp (dEq 64) (eVar 2) (eC (.str "pass")))) (sRet (eCall 3 (F .going_on) (aCons (eCall 2 (F .meant) (aCons (eOp dIx (eVar 0) (eC (.int 1))) (aCons (eVar 1) aNil))) (aCons (eCall 2 (F .meant) (aCons (eOp dIx (eVar 0) (eC (.int 2))) (aCons (eVar 1) aNil))) (aCons (eCall 2 (F .meant) (aCons (eOp dIx (eVar 0) (eC (.int 3))) (aCons (eVar 1) aNil))) aNil))))) sNext)
  (b_gone_on_t2 F))
abbrev b_gone_on (F : Fns) : B :=
  (sSeq (sSet 2 (eOp dIx (eVar 0) (eC (.int 0))))
  (b_gone_on_t1 F))
abbrev b_told_of (F : Fns) : B :=
  (sSeq (sIf (tOf (eOp (dEq 64) (eOp dIx (eVar 0) (eC (.int 0))) (eC (.str "num")))) (sRet (eTup (aCons (eC (.str "number")) (aCons (eOp dIx (eVar 0) (eC (.int 1))) aNil)))) sNext)
  (sRet (eTup (aCons (eOp dIx (eVar 0) (eC (.int 1))) (aCons (eOp dIx (eVar 0) (eC (.int 2))) aNil)))))
def b_run_plain_t3 (F : Fns) : B :=
  (sWhile (tOf (eC (.bl true))) (sSeq (sAsg (eCall 2 (F .gone_on) (aCons (eOp dIx (eVar 3) (eC (.int 0))) (aCons (eOp dIx (eVar 3) (eC (.int 1))) aNil))) (gdTup 2 (gsCons (gdName 4) (gsCons (gdName 3) gsNil))))
  (sSeq (sIf (tOf (eOp (dEq 64) (eVar 4) (eC (.str "stuck")))) (sRet (eTup (aCons (eC (.str "stuck")) (aCons (eVar 3) aNil)))) sNext)
  (sSeq (sIf (tOf (eS1 dStarts (eVar 4) (eC (.str "step")))) (sSeq (sIf (tOf (eOp (dEq 64) (eVar 2) (eVar 1))) (sRet (eTup (aCons (eC (.str "dry")) aNil))) sNext)
  (sSet 2 (eOp dAdd (eVar 2) (eC (.int 1))))) sNext)
  (sIf (tOf (eS1 dEnds (eVar 4) (eC (.str "told")))) (sRet (eCall 1 (F .told_of) (aCons (eVar 3) aNil))) sNext)))))
def b_run_plain_t2 (F : Fns) : B :=
  (sSeq (sSet 3 (eTup (aCons (eVar 0) (aCons (eDi ddNew) aNil))))
  (b_run_plain_t3 F))
def b_run_plain_t1 (F : Fns) : B :=
  (sSeq (sSet 2 (eC (.int 0)))
  (b_run_plain_t2 F))
abbrev b_run_plain (F : Fns) : B :=
  (sSeq (sIf (tfOr (tfNot (tOf (eCall 1 (F .is_whole) (aCons (eVar 1) aNil)))) (tfNot (tOf (eChain (dCmp fun i j => decide (i ≤ j)) (dCmp fun i j => decide (i ≤ j)) (eC (.int 0)) (eVar 1) (eC (.int 1000000)))))) sNever sNext)
  (b_run_plain_t1 F))
abbrev b__law_cell_at (F : Fns) : B :=
  (sSeq (sIf (tOf (eOp (dCmp fun i j => decide (i < j)) (eVar 1) (eBi bLen (aCons (eVar 0) aNil)))) (sRet (eOp dIx (eVar 0) (eVar 1))) sNext)
  (sRet (eC (.int 0))))
abbrev b__law_mixed (F : Fns) : B :=
  (sSeq (sSet 1 (eOp (dInt gMod) (eOp dAdd (eOp dMul (eVar 0) (eC (.int 48271))) (eC (.int 7919))) (eC (.int 2147483647))))
  (sRet (eOp (dInt gMod) (eOp dAdd (eOp dMul (eVar 1) (eVar 1)) (eOp (dInt gDiv) (eVar 1) (eC (.int 7)))) (eC (.int 2147483647)))))
abbrev b__law_fresh (F : Fns) : B :=
  (sRet (eOp dIx (eL (lDisp (aCons (eC (.str "x")) (aCons (eC (.str "y")) (aCons (eOp dAdd (eC (.str "V")) (eBi bStrI (aCons (eOp (dInt gMod) (eVar 0) (eC (.int 4))) aNil))) (aCons (eC (.str "ab")) (aCons (eOp dAdd (eC (.str "K")) (eBi bStrI (aCons (eOp (dInt gMod) (eVar 0) (eC (.int 999))) aNil))) aNil))))))) (eOp (dInt gMod) (eOp (dInt gDiv) (eVar 0) (eC (.int 7))) (eC (.int 5)))))
def b__law_simple_by_t2 (F : Fns) : B :=
  (sRet (eTup (aCons (eC (.str "num")) (aCons (eOp (dInt gSub) (eOp (dInt gMod) (eOp (dInt gDiv) (eVar 1) (eC (.int 3))) (eC (.int 7))) (eC (.int 3))) aNil))))
def b__law_simple_by_t1 (F : Fns) : B :=
  (sSeq (sIf (tfAnd (tOf (eOp (dNe 64) (eVar 2) (eL (lDisp aNil)))) (tOf (eOp (dCmp fun i j => decide (i > j)) (eOp (dInt gMod) (eVar 1) (eC (.int 3))) (eC (.int 0))))) (sRet (eTup (aCons (eC (.str "name")) (aCons (eOp dIx (eVar 2) (eOp (dInt gMod) (eOp (dInt gDiv) (eVar 1) (eC (.int 3))) (eBi bLen (aCons (eVar 2) aNil)))) aNil)))) sNext)
  (b__law_simple_by_t2 F))
abbrev b__law_simple_by (F : Fns) : B :=
  (sSeq (sSet 2 (eL (lBi blSort (aCons (eL (lBi blListD (aCons (eVar 0) aNil))) aNil))))
  (b__law_simple_by_t1 F))
def b__law_meant_t2 (F : Fns) : B :=
  (sRet (eSlice (eVar 0) ptN (ptS (eC (.int 3)))))
def b__law_meant_t1 (F : Fns) : B :=
  (sSeq (sIf (tfAnd (tOf (eOp (dEq 64) (eOp dIx (eVar 0) (eC (.int 0))) (eC (.str "code")))) (tOf (eOp (dEq 64) (eOp dIx (eOp dIx (eVar 0) (eC (.int 6))) (eC (.int 0))) (eC (.str "plus"))))) (sRet (eTup (aCons (eC (.str "code")) (aCons (eOp dIx (eVar 0) (eC (.int 1))) (aCons (eOp dIx (eVar 0) (eC (.int 2))) (aCons (eOp dIx (eOp dIx (eVar 0) (eC (.int 6))) (eC (.int 1))) (aCons (eOp dGet (eVar 1) (eOp dIx (eOp dIx (eOp dIx (eVar 0) (eC (.int 6))) (eC (.int 3))) (eC (.int 1)))) aNil))))))) sNext)
  (b__law_meant_t2 F))
abbrev b__law_meant (F : Fns) : B :=
  (sSeq (sIf (tOf (eOp (dEq 64) (eOp dIx (eVar 0) (eC (.int 0))) (eC (.str "name")))) (sRet (eOp dGet (eVar 1) (eOp dIx (eVar 0) (eC (.int 1))))) sNext)
  (b__law_meant_t1 F))
def b__law_code_by_t3 (F : Fns) : B :=
  (sRet (eTup (aCons (eC (.str "code")) (aCons (eOp dIx (eL (lDisp (aCons (eC (.str "function")) (aCons (eC (.str "kept")) aNil)))) (eOp (dInt gMod) (eVar 1) (eC (.int 2)))) (aCons (eOp (dInt gMod) (eOp (dInt gDiv) (eVar 1) (eC (.int 2))) (eC (.int 10000))) (aCons (eC (.str "x")) (aCons (eC (.str "k")) (aCons (eC (.str "g")) (aCons (eVar 3) aNil)))))))))
def b__law_code_by_t2 (F : Fns) : B :=
  (sSeq (sIf (tfAnd (tOf (eOp (dNe 64) (eVar 2) (eL (lDisp aNil)))) (tOf (eOp (dCmp fun i j => decide (i > j)) (eOp (dInt gMod) (eVar 1) (eC (.int 3))) (eC (.int 0))))) (sSeq (sSet 4 (eTup (aCons (eC (.str "name")) (aCons (eOp dIx (eVar 2) (eOp (dInt gMod) (eOp (dInt gDiv) (eVar 1) (eC (.int 3))) (eBi bLen (aCons (eVar 2) aNil)))) aNil))))
  (sSet 3 (eTup (aCons (eC (.str "plus")) (aCons (eOp (dInt gMod) (eOp (dInt gDiv) (eVar 1) (eC (.int 5))) (eC (.int 10000))) (aCons (eTup (aCons (eC (.str "name")) (aCons (eC (.str "x")) aNil))) (aCons (eVar 4) (aCons (eTup (aCons (eC (.str "name")) (aCons (eC (.str "k")) aNil))) (aCons (eTup (aCons (eC (.str "name")) (aCons (eC (.str "g")) aNil))) aNil))))))))) sNext)
  (b__law_code_by_t3 F))
def b__law_code_by_t1 (F : Fns) : B :=
  (sSeq (sSet 3 (eTup (aCons (eC (.str "pass")) (aCons (eTup (aCons (eC (.str "name")) (aCons (eC (.str "k")) aNil))) (aCons (eTup (aCons (eC (.str "name")) (aCons (eC (.str "x")) aNil))) (aCons (eTup (aCons (eC (.str "name")) (aCons (eC (.str "g")) aNil))) aNil))))))
  (b__law_code_by_t2 F))
abbrev b__law_code_by (F : Fns) : B :=
  (sSeq (sSet 2 (eL (aLc (iSeq (eL (lBi blSort (aCons (eL (lBi blListD (aCons (eVar 0) aNil))) aNil)))) (gdName 5) (tfAnd (tOf (eOp (dEq 64) (eOp dIx (eOp dGet (eVar 0) (eVar 5)) (eC (.int 0))) (eC (.str "num")))) (tOf (eOp (dIn true) (eVar 5) (eL (lDisp (aCons (eC (.str "x")) (aCons (eC (.str "k")) (aCons (eC (.str "g")) aNil)))))))) (eVar 5) [5])))
  (b__law_code_by_t1 F))
def b__law_row_t5 (F : Fns) : B :=
  (sRet (eVar 6))
def b__law_row_t4 (F : Fns) : B :=
  (sSeq (sIf (tfAnd (tOf (eOp (dCmp fun i j => decide (i > j)) (eOp (dInt gMod) (eOp (dInt gDiv) (eVar 1) (eC (.int 41))) (eC (.int 8))) (eC (.int 0)))) (tOf (eOp (dIsN true) (eOp dIx (eCall 2 (F ._law_behind) (aCons (eVar 6) (aCons (eVar 0) aNil))) (eC (.int 0))) (eC .non)))) (sRet (eOp dAdd (eTup (aCons (eC (.str "let")) aNil)) (eSlice (eVar 6) (ptS (eC (.int 1))) ptN))) sNext)
  (b__law_row_t5 F))
def b__law_row_t3 (F : Fns) : B :=
  (sSeq (sSet 6 (eTup (aCons (eOp dIx (eVar 5) (eOp dAdd (eOp (dInt gMod) (eVar 1) (eC (.int 8))) (eOp dMul (eC (.int 2)) (eBi bInt (aCons (eAnd (eOp (dEq 64) (eOp (dInt gMod) (eOp (dInt gDiv) (eVar 1) (eC (.int 43))) (eC (.int 3))) (eC (.int 1))) (eOp (dCmp fun i j => decide (i > j)) (eOp (dInt gMod) (eVar 1) (eC (.int 8))) (eC (.int 5)))) aNil))))) (aCons (eOp (dInt gMod) (eOp (dInt gDiv) (eVar 1) (eC (.int 8))) (eC (.int 10000))) (aCons (eVar 2) (aCons (eVar 3) aNil))))))
  (b__law_row_t4 F))
def b__law_row_t2 (F : Fns) : B :=
  (sSeq (sSet 5 (eL (lDisp (aCons (eC (.str "let")) (aCons (eC (.str "pass")) (aCons (eC (.str "plus")) (aCons (eC (.str "pick")) (aCons (eC (.str "call")) (aCons (eC (.str "shut")) (aCons (eC (.str "leave")) (aCons (eC (.str "ask")) (aCons (eC (.str "held then")) (aCons (eC (.str "held last")) aNil)))))))))))))
  (b__law_row_t3 F))
def b__law_row_t1 (F : Fns) : B :=
  (sSeq (sFrzL 3 (sSeq (sSet 3 (eLM (lDisp (aCons (eCall 2 (F ._law_simple_by) (aCons (eVar 0) (aCons (eOp (dInt gDiv) (eVar 1) (eC (.int 17))) aNil))) (aCons (eCall 2 (F ._law_simple_by) (aCons (eVar 0) (aCons (eOp (dInt gDiv) (eVar 1) (eC (.int 19))) aNil))) aNil))))) (sSeq (sIf (tfOr (tOf (eOp (dEq 64) (eOp (dInt gMod) (eOp (dInt gDiv) (eVar 1) (eC (.int 23))) (eC (.int 5))) (eC (.int 1)))) (tOf (eOp (dEq 64) (eOp (dInt gMod) (eVar 1) (eC (.int 8))) (eC (.int 5))))) (sSetIx (eCall 2 (F ._law_code_by) (aCons (eVar 0) (aCons (eOp (dInt gDiv) (eVar 1) (eC (.int 29))) aNil))) (eVar 3) (eC (.int 0))) sNext) (sSeq (sSet 4 (eL (aLc (iSeq (eL (lBi blSort (aCons (eL (lBi blListD (aCons (eVar 0) aNil))) aNil)))) (gdName 7) (tOf (eOp (dEq 64) (eOp dIx (eOp dGet (eVar 0) (eVar 7)) (eC (.int 0))) (eC (.str "code")))) (eVar 7) [7]))) (sIf (tfAnd (tOf (eOp (dEq 64) (eOp (dInt gMod) (eVar 1) (eC (.int 8))) (eC (.int 4)))) (tfAnd (tOf (eOp (dNe 64) (eVar 4) (eL (lDisp aNil)))) (tOf (eOp (dCmp fun i j => decide (i > j)) (eOp (dInt gMod) (eOp (dInt gDiv) (eVar 1) (eC (.int 31))) (eC (.int 4))) (eC (.int 0)))))) (sSetIx (eTup (aCons (eC (.str "name")) (aCons (eOp dIx (eVar 4) (eOp (dInt gMod) (eOp (dInt gDiv) (eVar 1) (eC (.int 37))) (eBi bLen (aCons (eVar 4) aNil)))) aNil))) (eVar 3) (eC (.int 0))) sNext)))))
  (b__law_row_t2 F))
abbrev b__law_row (F : Fns) : B :=
  (sSeq (sFrzL 2 (sSeq (sSet 2 (eLM (lDisp (aCons (eCall 1 (F ._law_fresh) (aCons (eOp (dInt gDiv) (eVar 1) (eC (.int 11))) aNil)) (aCons (eCall 1 (F ._law_fresh) (aCons (eOp (dInt gDiv) (eVar 1) (eC (.int 13))) aNil)) aNil))))) (sIf (tOf (eOp (dEq 64) (eOp dIx (eVar 2) (eC (.int 0))) (eOp dIx (eVar 2) (eC (.int 1))))) (sSetIx (eC (.str "other")) (eVar 2) (eC (.int 1))) sNext)))
  (b__law_row_t1 F))
abbrev b__law_known_after (F : Fns) : B :=
  (sSeq (sSet 3 (eDM (ddCopy (aCons (eVar 0) aNil))))
  (sSeq (sFor (iZip (eVar 1) (eVar 2)) (gdTup 2 (gsCons (gdName 4) (gsCons (gdName 5) gsNil))) (sDput (eVar 5) (eVar 3) (eVar 4)))
  (sRet (eVar 3))))
def b__law_bound_t2 (F : Fns) : B :=
  (sRet (eTup (aCons (eC .non) (aCons (eCall 3 (F ._law_known_after) (aCons (eVar 1) (aCons (eOp dIx (eVar 0) (eC (.int 2))) (aCons (eL (lDisp (aCons (eVar 2) (aCons (eTup (aCons (eC (.str "end")) aNil)) aNil)))) aNil)))) (aCons (eOp dAdd (eVar 3) (eBi bInt (aCons (eOp (dEq 64) (eVar 4) (eC (.int 2))) aNil))) aNil)))))
def b__law_bound_t1 (F : Fns) : B :=
  (sSeq (sIf (tOf (eOp (dEq 64) (eVar 4) (eC (.int 1)))) (sRet (eTup (aCons (eC .non) (aCons (eCall 3 (F ._law_known_after) (aCons (eVar 1) (aCons (eSlice (eOp dIx (eVar 0) (eC (.int 2))) ptN (ptS (eC (.int 1)))) (aCons (eL (lDisp (aCons (eVar 2) aNil))) aNil)))) (aCons (eOp dAdd (eVar 3) (eC (.int 1))) aNil))))) sNext)
  (b__law_bound_t2 F))
abbrev b__law_bound (F : Fns) : B :=
  (sSeq (sSet 4 (eOp (dInt gMod) (eOp dIx (eVar 0) (eC (.int 1))) (eC (.int 4))))
  (b__law_bound_t1 F))
def b__law_called_t3 (F : Fns) : B :=
  (sRet (eCall 4 (F ._law_bound) (aCons (eVar 0) (aCons (eVar 1) (aCons (eTup (aCons (eC (.str "num")) (aCons (eOp dAdd (eOp dIx (eOp dIx (eVar 2) (eC (.int 1))) (eC (.int 1))) (eOp dIx (eOp dIx (eOp dIx (eVar 2) (eC (.int 0))) (eC (.int 4))) (eC (.int 1)))) aNil))) (aCons (eC (.int 2)) aNil))))))
def b__law_called_t2 (F : Fns) : B :=
  (sSeq (sIf (tfOr (tOf (eOp (dNe 64) (eOp dIx (eOp dIx (eVar 2) (eC (.int 1))) (eC (.int 0))) (eC (.str "num")))) (tOf (eOp (dNe 64) (eOp dIx (eOp dIx (eOp dIx (eVar 2) (eC (.int 0))) (eC (.int 4))) (eC (.int 0))) (eC (.str "num"))))) (sRet (eTup (aCons (eTup (aCons (eC (.str "stuck")) (aCons (eOp dIx (eOp dIx (eVar 2) (eC (.int 0))) (eC (.int 3))) aNil))) (aCons (eVar 1) (aCons (eC (.int 1)) aNil))))) sNext)
  (b__law_called_t3 F))
def b__law_called_t1 (F : Fns) : B :=
  (sSeq (sIf (tOf (eOp (dEq 64) (eBi bLen (aCons (eOp dIx (eVar 2) (eC (.int 0))) aNil)) (eC (.int 3)))) (sRet (eCall 4 (F ._law_bound) (aCons (eVar 0) (aCons (eVar 1) (aCons (eOp dIx (eVar 2) (eC (.int 1))) (aCons (eC (.int 1)) aNil)))))) sNext)
  (b__law_called_t2 F))
abbrev b__law_called (F : Fns) : B :=
  (sSeq (sIf (tOf (eOp (dNe 64) (eOp dIx (eOp dIx (eVar 2) (eC (.int 0))) (eC (.int 0))) (eC (.str "code")))) (sRet (eTup (aCons (eTup (aCons (eC (.str "stuck")) (aCons (eOp dIx (eVar 0) (eC (.int 1))) aNil))) (aCons (eVar 1) (aCons (eC (.int 0)) aNil))))) sNext)
  (b__law_called_t1 F))
abbrev b__law_turned (F : Fns) : B :=
  (sSeq (sSet 2 (eOp dAdd (eL (lBi blSort (aCons (eL (lBi blListD (aCons (eVar 1) aNil))) aNil))) (eL (lDisp (aCons (eC (.str "c")) aNil)))))
  (sRet (eOp dIx (eVar 2) (eOp (dInt gMod) (eOp dIx (eVar 0) (eC (.int 1))) (eBi bLen (aCons (eVar 2) aNil))))))
def b__law_held_t3 (F : Fns) : B :=
  (sRet (eTup (aCons (eC .non) (aCons (eCall 3 (F ._law_known_after) (aCons (eVar 1) (aCons (eOp dIx (eVar 0) (eC (.int 2))) (aCons (eL (lDisp (aCons (eVar 4) (aCons (eTup (aCons (eC (.str "end")) aNil)) aNil)))) aNil)))) (aCons (eC (.int 0)) aNil)))))
def b__law_held_t2 (F : Fns) : B :=
  (sSeq (sIf (tOf (eOp (dEq 64) (eOp dIx (eVar 0) (eC (.int 0))) (eC (.str "held last")))) (sRet (eTup (aCons (eC .non) (aCons (eCall 3 (F ._law_known_after) (aCons (eVar 1) (aCons (eSlice (eOp dIx (eVar 0) (eC (.int 2))) ptN (ptS (eC (.int 1)))) (aCons (eL (lDisp (aCons (eVar 4) aNil))) aNil)))) (aCons (eC (.int 1)) aNil))))) sNext)
  (b__law_held_t3 F))
def b__law_held_t1 (F : Fns) : B :=
  (sSeq (sSet 4 (eCall 2 (F ._law_meant) (aCons (eOp dIx (eOp dIx (eVar 0) (eC (.int 3))) (eC (.int 0))) (aCons (eVar 3) aNil))))
  (b__law_held_t2 F))
abbrev b__law_held (F : Fns) : B :=
  (sSeq (sSet 3 (eCall 3 (F ._law_known_after) (aCons (eVar 1) (aCons (eL (lDisp (aCons (eCall 2 (F ._law_turned) (aCons (eVar 0) (aCons (eVar 1) aNil))) aNil))) (aCons (eL (lDisp (aCons (eOp dIx (eVar 2) (eC (.int 1))) aNil))) aNil)))))
  (b__law_held_t1 F))
def b__law_behind_t10 (F : Fns) : B :=
  (sRet (eTup (aCons (eC .non) (aCons (eCall 3 (F ._law_known_after) (aCons (eVar 1) (aCons (eSlice (eVar 4) ptN (ptS (eC (.int 1)))) (aCons (eVar 6) aNil)))) (aCons (eC (.int 0)) aNil)))))
def b__law_behind_t9 (F : Fns) : B :=
  (sSeq (sIf (tOf (eOp (dEq 64) (eVar 2) (eC (.str "pass")))) (sRet (eCall 4 (F ._law_bound) (aCons (eVar 0) (aCons (eVar 1) (aCons (eOp dIx (eVar 6) (eC (.int 0))) (aCons (eC (.int 0)) aNil)))))) sNext)
  (b__law_behind_t10 F))
def b__law_behind_t8 (F : Fns) : B :=
  (sSeq (sIf (tOf (eOp (dEq 64) (eVar 2) (eC (.str "leave")))) (sRet (eTup (aCons (eC .non) (aCons (eCall 3 (F ._law_known_after) (aCons (eVar 1) (aCons (eSlice (eVar 4) ptN (ptS (eC (.int 1)))) (aCons (eVar 6) aNil)))) (aCons (eC (.int 1)) aNil))))) sNext)
  (b__law_behind_t9 F))
def b__law_behind_t7 (F : Fns) : B :=
  (sSeq (sIf (tOf (eOp (dEq 64) (eVar 2) (eC (.str "shut")))) (sRet (eCall 4 (F ._law_bound) (aCons (eVar 0) (aCons (eVar 1) (aCons (eOp dIx (eVar 6) (eC (.int 0))) (aCons (eC (.int 1)) aNil)))))) sNext)
  (b__law_behind_t8 F))
def b__law_behind_t6 (F : Fns) : B :=
  (sSeq (sIf (tOf (eOp (dEq 64) (eVar 2) (eC (.str "ask")))) (sSeq (sIf (tOf (eOp (dEq 64) (eOp (dInt gMod) (eVar 3) (eC (.int 4))) (eC (.int 1)))) (sRet (eTup (aCons (eTup (aCons (eC (.str "stuck")) (aCons (eVar 3) aNil))) (aCons (eVar 1) (aCons (eC (.int 0)) aNil))))) sNext)
  (sRet (eTup (aCons (eC .non) (aCons (eVar 1) (aCons (eC (.int 1)) aNil)))))) sNext)
  (b__law_behind_t7 F))
def b__law_behind_t5 (F : Fns) : B :=
  (sSeq (sIf (tOf (eOp (dIn false) (eVar 2) (eTup (aCons (eC (.str "held then")) (aCons (eC (.str "held last")) aNil))))) (sRet (eCall 3 (F ._law_held) (aCons (eVar 0) (aCons (eVar 1) (aCons (eVar 6) aNil))))) sNext)
  (b__law_behind_t6 F))
def b__law_behind_t4 (F : Fns) : B :=
  (sSeq (sIf (tOf (eOp (dEq 64) (eVar 2) (eC (.str "call")))) (sRet (eCall 3 (F ._law_called) (aCons (eVar 0) (aCons (eVar 1) (aCons (eVar 6) aNil))))) sNext)
  (b__law_behind_t5 F))
def b__law_behind_t3 (F : Fns) : B :=
  (sSeq (sIf (tOf (eOp (dEq 64) (eVar 2) (eC (.str "pick")))) (sSeq (sIf (tOf (eOp (dNe 64) (eOp dIx (eOp dIx (eVar 6) (eC (.int 0))) (eC (.int 0))) (eC (.str "num")))) (sRet (eTup (aCons (eTup (aCons (eC (.str "stuck")) (aCons (eVar 3) aNil))) (aCons (eVar 1) (aCons (eC (.int 0)) aNil))))) sNext)
  (sRet (eTup (aCons (eC .non) (aCons (eVar 1) (aCons (eC (.int 1)) aNil)))))) sNext)
  (b__law_behind_t4 F))
def b__law_behind_t2 (F : Fns) : B :=
  (sSeq (sIf (tOf (eOp (dEq 64) (eVar 2) (eC (.str "plus")))) (sSeq (sIf (tfOr (tOf (eOp (dNe 64) (eOp dIx (eOp dIx (eVar 6) (eC (.int 0))) (eC (.int 0))) (eC (.str "num")))) (tOf (eOp (dNe 64) (eOp dIx (eOp dIx (eVar 6) (eC (.int 1))) (eC (.int 0))) (eC (.str "num"))))) (sRet (eTup (aCons (eTup (aCons (eC (.str "stuck")) (aCons (eVar 3) aNil))) (aCons (eVar 1) (aCons (eC (.int 0)) aNil))))) sNext)
  (sRet (eCall 4 (F ._law_bound) (aCons (eVar 0) (aCons (eVar 1) (aCons (eTup (aCons (eC (.str "num")) (aCons (eOp dAdd (eOp dIx (eOp dIx (eVar 6) (eC (.int 0))) (eC (.int 1))) (eOp dIx (eOp dIx (eVar 6) (eC (.int 1))) (eC (.int 1)))) aNil))) (aCons (eC (.int 1)) aNil))))))) sNext)
  (b__law_behind_t3 F))
def b__law_behind_t1 (F : Fns) : B :=
  (sSeq (sSet 6 (eL (aLc (iSeq (eVar 5)) (gdName 7) tTrue (eCall 2 (F ._law_meant) (aCons (eVar 7) (aCons (eVar 1) aNil))) [7])))
  (b__law_behind_t2 F))
abbrev b__law_behind (F : Fns) : B :=
  (sSeq (sAsg (eVar 0) (gdTup 4 (gsCons (gdName 2) (gsCons (gdName 3) (gsCons (gdName 4) (gsCons (gdName 5) gsNil))))))
  (b__law_behind_t1 F))
def b__law_held_term_t4 (F : Fns) : B :=
  (sRet (eTup (aCons (eC (.str "let")) (aCons (eC (.str "H1")) (aCons (eVar 7) (aCons (eTup (aCons (eC (.str "let")) (aCons (eCall 2 (F ._law_turned) (aCons (eVar 0) (aCons (eVar 2) aNil))) (aCons (eOp dIx (eVar 6) (eC (.int 1))) (aCons (eVar 8) aNil))))) aNil))))))
def b__law_held_term_t3 (F : Fns) : B :=
  (sSeq (sIf (tOf (eOp (dEq 64) (eVar 3) (eC (.str "held last")))) (sSeq (sSet 7 (eTup (aCons (eC (.str "last")) (aCons (eOp dIx (eVar 5) (eC (.int 0))) (aCons (eVar 1) aNil)))))
  (sSet 8 (eTup (aCons (eC (.str "leave")) (aCons (eTup (aCons (eC (.str "name")) (aCons (eC (.str "H1")) aNil))) (aCons (eOp dIx (eVar 6) (eC (.int 0))) aNil)))))) sNext)
  (b__law_held_term_t4 F))
def b__law_held_term_t2 (F : Fns) : B :=
  (sSeq (sSet 8 (eTup (aCons (eC (.str "pass")) (aCons (eTup (aCons (eC (.str "name")) (aCons (eC (.str "H1")) aNil))) (aCons (eOp dIx (eVar 6) (eC (.int 0))) (aCons (eTup (aCons (eC (.str "end")) aNil)) aNil))))))
  (b__law_held_term_t3 F))
def b__law_held_term_t1 (F : Fns) : B :=
  (sSeq (sSet 7 (eTup (aCons (eC (.str "then")) (aCons (eOp dIx (eVar 5) (eC (.int 0))) (aCons (eOp dIx (eVar 5) (eC (.int 1))) (aCons (eVar 1) aNil))))))
  (b__law_held_term_t2 F))
abbrev b__law_held_term (F : Fns) : B :=
  (sSeq (sAsg (eVar 0) (gdTup 4 (gsCons (gdName 3) (gsCons (gdName 4) (gsCons (gdName 5) (gsCons (gdName 6) gsNil))))))
  (b__law_held_term_t1 F))
def b__law_handed_t4 (F : Fns) : B :=
  (sRet (eL (lDisp (aCons (eTup (aCons (eC (.str "then")) (aCons (eOp dIx (eVar 3) (eC (.int 0))) (aCons (eOp dIx (eVar 3) (eC (.int 1))) (aCons (eVar 1) aNil))))) (aCons (eTup (aCons (eC (.str "end")) aNil)) aNil)))))
def b__law_handed_t3 (F : Fns) : B :=
  (sSeq (sIf (tOf (eOp (dEq 64) (eOp (dInt gMod) (eVar 2) (eC (.int 4))) (eC (.int 2)))) (sSeq (sSet 6 (eTup (aCons (eC (.str "ask")) (aCons (eOp (dInt gMod) (eOp dAdd (eVar 2) (eC (.int 1))) (eC (.int 10000))) (aCons (eTup (aCons (eC (.str "name")) (aCons (eOp dIx (eVar 3) (eC (.int 1))) aNil))) (aCons (eVar 1) aNil))))))
  (sRet (eL (lDisp (aCons (eTup (aCons (eC (.str "then")) (aCons (eOp dIx (eVar 3) (eC (.int 0))) (aCons (eOp dIx (eVar 3) (eC (.int 1))) (aCons (eVar 6) aNil))))) (aCons (eTup (aCons (eC (.str "last")) (aCons (eC (.str "c")) (aCons (eVar 4) aNil)))) aNil)))))) sNext)
  (b__law_handed_t4 F))
def b__law_handed_t2 (F : Fns) : B :=
  (sSeq (sIf (tOf (eOp (dEq 64) (eOp (dInt gMod) (eVar 2) (eC (.int 4))) (eC (.int 1)))) (sSeq (sSet 5 (eTup (aCons (eC (.str "leave")) (aCons (eTup (aCons (eC (.str "name")) (aCons (eOp dIx (eVar 3) (eC (.int 1))) aNil))) (aCons (eTup (aCons (eC (.str "name")) (aCons (eOp dIx (eVar 3) (eC (.int 0))) aNil))) aNil)))))
  (sRet (eL (lDisp (aCons (eTup (aCons (eC (.str "then")) (aCons (eOp dIx (eVar 3) (eC (.int 0))) (aCons (eOp dIx (eVar 3) (eC (.int 1))) (aCons (eVar 5) aNil))))) (aCons (eTup (aCons (eC (.str "last")) (aCons (eOp dIx (eVar 3) (eC (.int 0))) (aCons (eVar 1) aNil)))) aNil)))))) sNext)
  (b__law_handed_t3 F))
def b__law_handed_t1 (F : Fns) : B :=
  (sSeq (sSet 4 (eTup (aCons (eC (.str "pass")) (aCons (eTup (aCons (eC (.str "halt")) aNil)) (aCons (eTup (aCons (eC (.str "num")) (aCons (eC (.int 77)) aNil))) (aCons (eTup (aCons (eC (.str "end")) aNil)) aNil))))))
  (b__law_handed_t2 F))
abbrev b__law_handed (F : Fns) : B :=
  (sSeq (sAsg (eSlice (eVar 0) (ptS (eC (.int 1))) (ptS (eC (.int 3)))) (gdTup 2 (gsCons (gdName 2) (gsCons (gdName 3) gsNil))))
  (b__law_handed_t1 F))
def b__law_picked_t2 (F : Fns) : B :=
  (sRet (eTup (aCons (eC (.str "pick")) (aCons (eOp dIx (eVar 0) (eC (.int 1))) (aCons (eOp dIx (eOp dIx (eVar 0) (eC (.int 3))) (eC (.int 0))) (aCons (eVar 3) (aCons (eVar 1) aNil)))))))
def b__law_picked_t1 (F : Fns) : B :=
  (sSeq (sIf (tOf (eOp (dEq 64) (eCall 2 (F ._law_meant) (aCons (eOp dIx (eOp dIx (eVar 0) (eC (.int 3))) (eC (.int 0))) (aCons (eVar 2) aNil))) (eTup (aCons (eC (.str "num")) (aCons (eC (.int 0)) aNil))))) (sRet (eTup (aCons (eC (.str "pick")) (aCons (eOp dIx (eVar 0) (eC (.int 1))) (aCons (eOp dIx (eOp dIx (eVar 0) (eC (.int 3))) (eC (.int 0))) (aCons (eVar 1) (aCons (eVar 3) aNil))))))) sNext)
  (b__law_picked_t2 F))
abbrev b__law_picked (F : Fns) : B :=
  (sSeq (sSet 3 (eTup (aCons (eC (.str "pass")) (aCons (eTup (aCons (eC (.str "halt")) aNil)) (aCons (eTup (aCons (eC (.str "num")) (aCons (eC (.int 77)) aNil))) (aCons (eTup (aCons (eC (.str "end")) aNil)) aNil))))))
  (b__law_picked_t1 F))
def b__law_term_t9 (F : Fns) : B :=
  (sRet (eTup (aCons (eC (.str "let")) (aCons (eOp dIx (eVar 5) (eC (.int 0))) (aCons (eOp dIx (eVar 6) (eC (.int 0))) (aCons (eVar 1) aNil))))))
def b__law_term_t8 (F : Fns) : B :=
  (sSeq (sIf (tOf (eOp (dEq 64) (eVar 3) (eC (.str "pass")))) (sRet (eTup (aCons (eC (.str "pass")) (aCons (eVar 7) (aCons (eOp dIx (eVar 6) (eC (.int 0))) (aCons (eVar 8) aNil)))))) sNext)
  (b__law_term_t9 F))
def b__law_term_t7 (F : Fns) : B :=
  (sSeq (sIf (tOf (eOp (dEq 64) (eVar 3) (eC (.str "leave")))) (sRet (eTup (aCons (eC (.str "leave")) (aCons (eTup (aCons (eC (.str "last")) (aCons (eOp dIx (eVar 5) (eC (.int 0))) (aCons (eVar 1) aNil)))) (aCons (eOp dIx (eVar 6) (eC (.int 0))) aNil))))) sNext)
  (b__law_term_t8 F))
def b__law_term_t6 (F : Fns) : B :=
  (sSeq (sIf (tOf (eOp (dEq 64) (eVar 3) (eC (.str "shut")))) (sRet (eTup (aCons (eC (.str "shut")) (aCons (eOp dIx (eVar 6) (eC (.int 0))) (aCons (eVar 7) (aCons (eVar 8) aNil)))))) sNext)
  (b__law_term_t7 F))
def b__law_term_t5 (F : Fns) : B :=
  (sSeq (sIf (tOf (eOp (dEq 64) (eVar 3) (eC (.str "ask")))) (sSeq (sIf (tOf (eOp (dEq 64) (eOp (dInt gMod) (eVar 4) (eC (.int 4))) (eC (.int 1)))) (sRet (eTup (aCons (eC (.str "ask")) (aCons (eVar 4) (aCons (eTup (aCons (eC (.str "end")) aNil)) (aCons (eVar 1) aNil)))))) sNext)
  (sRet (eTup (aCons (eC (.str "ask")) (aCons (eVar 4) (aCons (eTup (aCons (eC (.str "last")) (aCons (eC (.str "x")) (aCons (eVar 1) aNil)))) (aCons (eVar 1) aNil))))))) sNext)
  (b__law_term_t6 F))
def b__law_term_t4 (F : Fns) : B :=
  (sSeq (sIf (tOf (eOp (dEq 64) (eVar 3) (eC (.str "pick")))) (sRet (eCall 3 (F ._law_picked) (aCons (eVar 0) (aCons (eVar 1) (aCons (eVar 2) aNil))))) sNext)
  (b__law_term_t5 F))
def b__law_term_t3 (F : Fns) : B :=
  (sSeq (sIf (tfOr (tOf (eOp (dEq 64) (eVar 3) (eC (.str "plus")))) (tOf (eOp (dEq 64) (eVar 3) (eC (.str "call"))))) (sRet (eTup (aCons (eVar 3) (aCons (eVar 4) (aCons (eOp dIx (eVar 6) (eC (.int 0))) (aCons (eOp dIx (eVar 6) (eC (.int 1))) (aCons (eVar 7) (aCons (eVar 8) aNil)))))))) sNext)
  (b__law_term_t4 F))
def b__law_term_t2 (F : Fns) : B :=
  (sSeq (sIf (tOf (eOp (dIn false) (eVar 3) (eTup (aCons (eC (.str "held then")) (aCons (eC (.str "held last")) aNil))))) (sRet (eCall 3 (F ._law_held_term) (aCons (eVar 0) (aCons (eVar 1) (aCons (eVar 2) aNil))))) sNext)
  (b__law_term_t3 F))
def b__law_term_t1 (F : Fns) : B :=
  (sSeq (sAsg (eCall 2 (F ._law_handed) (aCons (eVar 0) (aCons (eVar 1) aNil))) (gdLst 2 (gsCons (gdName 7) (gsCons (gdName 8) gsNil))))
  (b__law_term_t2 F))
abbrev b__law_term (F : Fns) : B :=
  (sSeq (sAsg (eVar 0) (gdTup 4 (gsCons (gdName 3) (gsCons (gdName 4) (gsCons (gdName 5) (gsCons (gdName 6) gsNil))))))
  (b__law_term_t1 F))
abbrev b__law_end (F : Fns) : B :=
  (sSeq (sIf (tOf (eOp (dEq 64) (eOp dIx (eVar 0) (eC (.int 0))) (eC (.str "num")))) (sRet (eTup (aCons (eC (.str "number")) (aCons (eOp dIx (eVar 0) (eC (.int 1))) aNil)))) sNext)
  (sSeq (sIf (tOf (eOp (dEq 64) (eOp dIx (eVar 0) (eC (.int 0))) (eC (.str "code")))) (sRet (eTup (aCons (eOp dIx (eVar 0) (eC (.int 1))) (aCons (eOp dIx (eVar 0) (eC (.int 2))) aNil)))) sNext)
  (sRet (eC .non))))
abbrev b__law_usable (F : Fns) : B :=
  (sRet (eDi (ddPairs (aCons (eL (aUsb 0 1 "end")) aNil))))
def b_law_t14 (F : Fns) : B :=
  (sRet (eAnd (eIsi "tuple" (eVar 13)) (eAnd (eOp (dEq 64) (eVar 13) (eVar 10)) (eOp (dEq 64) (eCall 2 (F .run_plain) (aCons (eVar 8) (aCons (eVar 9) aNil))) (eVar 10)))))
def b_law_t13 (F : Fns) : B :=
  (sSeq (sSet 13 (eCall 2 (F .run_plain) (aCons (eVar 8) (aCons (eVar 9) aNil))))
  (b_law_t14 F))
def b_law_t12 (F : Fns) : B :=
  (sSeq (sIf (tOf (eOp (dIsN false) (eVar 10) (eC .non))) (sSet 10 (eCall 1 (F ._law_end) (aCons (eCall 2 (F ._law_meant) (aCons (eVar 6) (aCons (eVar 1) aNil))) aNil))) sNext)
  (b_law_t13 F))
def b_law_t11 (F : Fns) : B :=
  (sSeq (sFor (iSeq (eVar 2)) (gdName 12) (sSeq (sAsg (eCall 2 (F ._law_behind) (aCons (eVar 12) (aCons (eVar 1) aNil))) (gdTup 3 (gsCons (gdName 14) (gsCons (gdName 16) (gsCons (gdName 15) gsNil)))))
  (sSeq (sIf (tfAnd (tOf (eOp (dCmp fun i j => decide (i > j)) (eVar 15) (eC (.int 0)))) (tOf (eOp (dCmp fun i j => decide (i > j)) (eOp dAdd (eVar 11) (eVar 15)) (eVar 9)))) (sSet 14 (eTup (aCons (eC (.str "dry")) aNil))) sNext)
  (sSeq (sIf (tfAnd (tOf (eOp (dIsN true) (eVar 14) (eC .non))) (tOf (eOp (dIsN false) (eVar 10) (eC .non)))) (sSet 10 (eVar 14)) sNext)
  (sSeq (sSet 1 (eVar 16))
  (sSet 11 (eOp dAdd (eVar 11) (eVar 15))))))))
  (b_law_t12 F))
def b_law_t10 (F : Fns) : B :=
  (sSeq (sSet 11 (eC (.int 0)))
  (b_law_t11 F))
def b_law_t9 (F : Fns) : B :=
  (sSeq (sSet 10 (eC .non))
  (b_law_t10 F))
def b_law_t8 (F : Fns) : B :=
  (sSeq (sSet 1 (eDi ddNew))
  (b_law_t9 F))
def b_law_t7 (F : Fns) : B :=
  (sSeq (sSet 9 (eOp (dInt gMod) (eCall 2 (F ._law_cell_at) (aCons (eVar 0) (aCons (eC (.int 0)) aNil))) (eC (.int 26))))
  (b_law_t8 F))
def b_law_t6 (F : Fns) : B :=
  (sSeq (sFor (iRange1 (aCons (eBi bLen (aCons (eVar 2) aNil)) aNil)) (gdName 4) (sSet 8 (eCall 3 (F ._law_term) (aCons (eOp dIx (eVar 2) (eOp (dInt gSub) (eNeg (eC (.int 1))) (eVar 4))) (aCons (eVar 8) (aCons (eOp dIx (eVar 3) (eOp (dInt gSub) (eNeg (eC (.int 1))) (eVar 4))) aNil))))))
  (b_law_t7 F))
def b_law_t5 (F : Fns) : B :=
  (sSeq (sSet 8 (eTup (aCons (eC (.str "pass")) (aCons (eTup (aCons (eC (.str "halt")) aNil)) (aCons (eVar 6) (aCons (eTup (aCons (eC (.str "end")) aNil)) aNil))))))
  (b_law_t6 F))
def b_law_t4 (F : Fns) : B :=
  (sSeq (sIf (tfAnd (tOf (eOp (dNe 64) (eVar 7) (eL (lDisp aNil)))) (tfAnd (tOf (eOp (dInK false) (eOp dIx (eVar 7) (eNeg (eC (.int 1)))) (eCall 1 (F ._law_usable) (aCons (eVar 1) aNil)))) (tOf (eOp (dCmp fun i j => decide (i > j)) (eOp (dInt gMod) (eCall 2 (F ._law_cell_at) (aCons (eVar 0) (aCons (eC (.int 1)) aNil))) (eC (.int 3))) (eC (.int 0)))))) (sSet 6 (eTup (aCons (eC (.str "name")) (aCons (eOp dIx (eVar 7) (eNeg (eC (.int 1)))) aNil)))) sNext)
  (b_law_t5 F))
def b_law_t3 (F : Fns) : B :=
  (sSeq (sSet 7 (eL (aLc (iSeq (eVar 2)) (gdName 12) (tOf (eOp (dEq 64) (eOp dIx (eVar 12) (eC (.int 0))) (eC (.str "call")))) (eOp dIx (eOp dIx (eVar 12) (eC (.int 2))) (eC (.int 0))) [12])))
  (b_law_t4 F))
def b_law_t2 (F : Fns) : B :=
  (sSeq (sSet 6 (eCall 2 (F ._law_simple_by) (aCons (eCall 1 (F ._law_usable) (aCons (eVar 1) aNil)) (aCons (eCall 1 (F ._law_mixed) (aCons (eCall 2 (F ._law_cell_at) (aCons (eVar 0) (aCons (eC (.int 1)) aNil))) aNil)) aNil))))
  (b_law_t3 F))
def b_law_t1 (F : Fns) : B :=
  (sSeq (sFrzLL 2 3 (sSeq (sSet 2 (eLM (lDisp aNil))) (sSeq (sSet 3 (eLM (lDisp aNil))) (sFor (iEnumLD (eSlice (eVar 0) (ptS (eC (.int 2))) (ptS (eC (.int 21))))) (gdTup 2 (gsCons (gdName 4) (gsCons (gdName 5) gsNil))) (sSeq (sSet 12 (eCall 2 (F ._law_row) (aCons (eCall 1 (F ._law_usable) (aCons (eVar 1) aNil)) (aCons (eCall 1 (F ._law_mixed) (aCons (eOp dAdd (eVar 5) (eOp dMul (eC (.int 7919)) (eVar 4))) aNil)) aNil))))
  (sSeq (sExp (eMeth1 kAppend (eVar 2) (eVar 12)))
  (sSeq (sExp (eMeth1 kAppend (eVar 3) (eVar 1)))
  (sSeq (sAsg (eCall 2 (F ._law_behind) (aCons (eVar 12) (aCons (eVar 1) aNil))) (gdTup 3 (gsCons (gdName 14) (gsCons (gdName 1) (gsCons (gdName 15) gsNil)))))
  (sIf (tOf (eOp (dIsN true) (eVar 14) (eC .non))) (sSeq (sSet 1 (eDi ddNew))
  sBrk) sNext)))))))))
  (b_law_t2 F))
abbrev b_law (F : Fns) : B :=
  (sSeq (sSet 1 (eDi ddNew))
  (b_law_t1 F))
def bodies (F : Fns) : Nm → Fn
  | .is_whole => gcFn (fnD 1 (b_is_whole F))
  | .meant => gcFn (fnD 2 (b_meant F))
  | .with_names => gcFn (fnD 6 (b_with_names F))
  | .going_on => gcFn (fnD 3 (b_going_on F))
  | .called_with => gcFn (fnD 5 (b_called_with F))
  | .summed => gcFn (fnD 7 (b_summed F))
  | .chosen_of => gcFn (fnD 3 (b_chosen_of F))
  | .gone_on => gcFn (fnD 5 (b_gone_on F))
  | .told_of => gcFn (fnD 1 (b_told_of F))
  | .run_plain => gcFn (fnD 5 (b_run_plain F))
  | ._law_cell_at => gcFn (fnD 2 (b__law_cell_at F))
  | ._law_mixed => gcFn (fnD 2 (b__law_mixed F))
  | ._law_fresh => gcFn (fnD 1 (b__law_fresh F))
  | ._law_simple_by => gcFn (fnD 3 (b__law_simple_by F))
  | ._law_meant => gcFn (fnD 2 (b__law_meant F))
  | ._law_code_by => gcFn (fnD 6 (b__law_code_by F))
  | ._law_row => gcFn (fnD 8 (b__law_row F))
  | ._law_known_after => gcFn (fnD 6 (b__law_known_after F))
  | ._law_bound => gcFn (fnD 5 (b__law_bound F))
  | ._law_called => gcFn (fnD 3 (b__law_called F))
  | ._law_turned => gcFn (fnD 3 (b__law_turned F))
  | ._law_held => gcFn (fnD 5 (b__law_held F))
  | ._law_behind => gcFn (fnD 8 (b__law_behind F))
  | ._law_held_term => gcFn (fnD 9 (b__law_held_term F))
  | ._law_handed => gcFn (fnD 7 (b__law_handed F))
  | ._law_picked => gcFn (fnD 4 (b__law_picked F))
  | ._law_term => gcFn (fnD 9 (b__law_term F))
  | ._law_end => gcFn (fnD 1 (b__law_end F))
  | ._law_usable => gcFn (fnD 2 (b__law_usable F))
/-- the defs, by the calls that are left -/
def Fk : Nat → Fns
  | 0 => fun _ _ _ => none
  | k + 1 => bodies (Fk k)
abbrev nmS : Nm → Str
  | .is_whole => "is_whole"
  | .meant => "meant"
  | .with_names => "with_names"
  | .going_on => "going_on"
  | .called_with => "called_with"
  | .summed => "summed"
  | .chosen_of => "chosen_of"
  | .gone_on => "gone_on"
  | .told_of => "told_of"
  | .run_plain => "run_plain"
  | ._law_cell_at => "_law_cell_at"
  | ._law_mixed => "_law_mixed"
  | ._law_fresh => "_law_fresh"
  | ._law_simple_by => "_law_simple_by"
  | ._law_meant => "_law_meant"
  | ._law_code_by => "_law_code_by"
  | ._law_row => "_law_row"
  | ._law_known_after => "_law_known_after"
  | ._law_bound => "_law_bound"
  | ._law_called => "_law_called"
  | ._law_turned => "_law_turned"
  | ._law_held => "_law_held"
  | ._law_behind => "_law_behind"
  | ._law_held_term => "_law_held_term"
  | ._law_handed => "_law_handed"
  | ._law_picked => "_law_picked"
  | ._law_term => "_law_term"
  | ._law_end => "_law_end"
  | ._law_usable => "_law_usable"
abbrev nmA : Nm → Nat
  | .is_whole => 1
  | .meant => 2
  | .with_names => 3
  | .going_on => 3
  | .called_with => 2
  | .summed => 2
  | .chosen_of => 2
  | .gone_on => 2
  | .told_of => 1
  | .run_plain => 2
  | ._law_cell_at => 2
  | ._law_mixed => 1
  | ._law_fresh => 1
  | ._law_simple_by => 2
  | ._law_meant => 2
  | ._law_code_by => 2
  | ._law_row => 2
  | ._law_known_after => 3
  | ._law_bound => 4
  | ._law_called => 3
  | ._law_turned => 2
  | ._law_held => 3
  | ._law_behind => 2
  | ._law_held_term => 3
  | ._law_handed => 2
  | ._law_picked => 3
  | ._law_term => 3
  | ._law_end => 1
  | ._law_usable => 1
def top (i : Nat) : Stmt := PySem.Challenge.pw_cutback_k07_plain_terms_run.main.body.getD i (.Pass ⟨0, 0, 0, 0⟩)
abbrev s_is_whole : Stmt := top 4
abbrev s_meant : Stmt := top 7
abbrev s_with_names : Stmt := top 8
abbrev s_going_on : Stmt := top 9
abbrev s_called_with : Stmt := top 10
abbrev s_summed : Stmt := top 11
abbrev s_chosen_of : Stmt := top 12
abbrev s_gone_on : Stmt := top 13
abbrev s_told_of : Stmt := top 14
abbrev s_run_plain : Stmt := top 15
abbrev s__law_cell_at : Stmt := top 17
abbrev s__law_mixed : Stmt := top 18
abbrev s__law_fresh : Stmt := top 19
abbrev s__law_simple_by : Stmt := top 20
abbrev s__law_meant : Stmt := top 21
abbrev s__law_code_by : Stmt := top 22
abbrev s__law_row : Stmt := top 23
abbrev s__law_known_after : Stmt := top 24
abbrev s__law_bound : Stmt := top 25
abbrev s__law_called : Stmt := top 26
abbrev s__law_turned : Stmt := top 27
abbrev s__law_held : Stmt := top 28
abbrev s__law_behind : Stmt := top 29
abbrev s__law_held_term : Stmt := top 30
abbrev s__law_handed : Stmt := top 31
abbrev s__law_picked : Stmt := top 32
abbrev s__law_term : Stmt := top 33
abbrev s__law_end : Stmt := top 34
abbrev s__law_usable : Stmt := top 35
abbrev s_law : Stmt := top 36
theorem sc_is_whole : FnScope ["thing"] ["thing"] (defScope s_is_whole) := ⟨rfl, rfl, rfl, by decide +kernel, rfl, by decide +kernel, by decide +kernel⟩
theorem sc_meant : FnScope ["term", "environment"] ["term", "environment"] (defScope s_meant) := ⟨rfl, rfl, rfl, by decide +kernel, rfl, by decide +kernel, by decide +kernel⟩
theorem sc_with_names : FnScope ["environment", "names", "values", "found", "name", "value"] ["environment", "names", "values"] (defScope s_with_names) := ⟨rfl, rfl, rfl, by decide +kernel, rfl, by decide +kernel, by decide +kernel⟩
theorem sc_going_on : FnScope ["k", "value", "g"] ["k", "value", "g"] (defScope s_going_on) := ⟨rfl, rfl, rfl, by decide +kernel, rfl, by decide +kernel, by decide +kernel⟩
theorem sc_called_with : FnScope ["term", "environment", "function", "values", "part"] ["term", "environment"] (defScope s_called_with) := ⟨rfl, rfl, rfl, by decide +kernel, rfl, by decide +kernel, by decide +kernel⟩
theorem sc_summed : FnScope ["term", "environment", "ones", "others", "value", "word", "thing"] ["term", "environment"] (defScope s_summed) := ⟨rfl, rfl, rfl, by decide +kernel, rfl, by decide +kernel, by decide +kernel⟩
theorem sc_chosen_of : FnScope ["term", "environment", "value"] ["term", "environment"] (defScope s_chosen_of) := ⟨rfl, rfl, rfl, by decide +kernel, rfl, by decide +kernel, by decide +kernel⟩
theorem sc_gone_on : FnScope ["term", "environment", "word", "last", "thing"] ["term", "environment"] (defScope s_gone_on) := ⟨rfl, rfl, rfl, by decide +kernel, rfl, by decide +kernel, by decide +kernel⟩
theorem sc_told_of : FnScope ["value"] ["value"] (defScope s_told_of) := ⟨rfl, rfl, rfl, by decide +kernel, rfl, by decide +kernel, by decide +kernel⟩
theorem sc_run_plain : FnScope ["term", "fuel", "count", "thing", "word"] ["term", "fuel"] (defScope s_run_plain) := ⟨rfl, rfl, rfl, by decide +kernel, rfl, by decide +kernel, by decide +kernel⟩
theorem sc__law_cell_at : FnScope ["_law_script", "_law_k"] ["_law_script", "_law_k"] (defScope s__law_cell_at) := ⟨rfl, rfl, rfl, by decide +kernel, rfl, by decide +kernel, by decide +kernel⟩
theorem sc__law_mixed : FnScope ["_law_number", "_law_first"] ["_law_number"] (defScope s__law_mixed) := ⟨rfl, rfl, rfl, by decide +kernel, rfl, by decide +kernel, by decide +kernel⟩
theorem sc__law_fresh : FnScope ["_law_mix"] ["_law_mix"] (defScope s__law_fresh) := ⟨rfl, rfl, rfl, by decide +kernel, rfl, by decide +kernel, by decide +kernel⟩
theorem sc__law_simple_by : FnScope ["_law_known", "_law_mix", "_law_names"] ["_law_known", "_law_mix"] (defScope s__law_simple_by) := ⟨rfl, rfl, rfl, by decide +kernel, rfl, by decide +kernel, by decide +kernel⟩
theorem sc__law_meant : FnScope ["_law_term_here", "_law_known"] ["_law_term_here", "_law_known"] (defScope s__law_meant) := ⟨rfl, rfl, rfl, by decide +kernel, rfl, by decide +kernel, by decide +kernel⟩
theorem sc__law_code_by : FnScope ["_law_known", "_law_mix", "_law_names", "_law_body", "_law_other", "_law_name"] ["_law_known", "_law_mix"] (defScope s__law_code_by) := ⟨rfl, rfl, rfl, by decide +kernel, rfl, by decide +kernel, by decide +kernel⟩
theorem sc__law_row : FnScope ["_law_known", "_law_mix", "_law_names", "_law_some", "_law_codes", "_law_words", "_law_row_here", "_law_name"] ["_law_known", "_law_mix"] (defScope s__law_row) := ⟨rfl, rfl, rfl, by decide +kernel, rfl, by decide +kernel, by decide +kernel⟩
theorem sc__law_known_after : FnScope ["_law_known", "_law_names", "_law_values", "_law_found", "_law_name", "_law_value"] ["_law_known", "_law_names", "_law_values"] (defScope s__law_known_after) := ⟨rfl, rfl, rfl, by decide +kernel, rfl, by decide +kernel, by decide +kernel⟩
theorem sc__law_bound : FnScope ["_law_row_here", "_law_known", "_law_value", "_law_step", "_law_way"] ["_law_row_here", "_law_known", "_law_value", "_law_step"] (defScope s__law_bound) := ⟨rfl, rfl, rfl, by decide +kernel, rfl, by decide +kernel, by decide +kernel⟩
theorem sc__law_called : FnScope ["_law_row_here", "_law_known", "_law_values"] ["_law_row_here", "_law_known", "_law_values"] (defScope s__law_called) := ⟨rfl, rfl, rfl, by decide +kernel, rfl, by decide +kernel, by decide +kernel⟩
theorem sc__law_turned : FnScope ["_law_row_here", "_law_known", "_law_names"] ["_law_row_here", "_law_known"] (defScope s__law_turned) := ⟨rfl, rfl, rfl, by decide +kernel, rfl, by decide +kernel, by decide +kernel⟩
theorem sc__law_held : FnScope ["_law_row_here", "_law_known", "_law_values", "_law_later", "_law_value"] ["_law_row_here", "_law_known", "_law_values"] (defScope s__law_held) := ⟨rfl, rfl, rfl, by decide +kernel, rfl, by decide +kernel, by decide +kernel⟩
theorem sc__law_behind : FnScope ["_law_row_here", "_law_known", "_law_word", "_law_mark", "_law_names", "_law_some", "_law_values", "_law_term_here"] ["_law_row_here", "_law_known"] (defScope s__law_behind) := ⟨rfl, rfl, rfl, by decide +kernel, rfl, by decide +kernel, by decide +kernel⟩
theorem sc__law_held_term : FnScope ["_law_row_here", "_law_inner", "_law_known", "_law_word", "_law_mark", "_law_names", "_law_some", "_law_held_here", "_law_last"] ["_law_row_here", "_law_inner", "_law_known"] (defScope s__law_held_term) := ⟨rfl, rfl, rfl, by decide +kernel, rfl, by decide +kernel, by decide +kernel⟩
theorem sc__law_handed : FnScope ["_law_row_here", "_law_inner", "_law_mark", "_law_names", "_law_other", "_law_left", "_law_asked"] ["_law_row_here", "_law_inner"] (defScope s__law_handed) := ⟨rfl, rfl, rfl, by decide +kernel, rfl, by decide +kernel, by decide +kernel⟩
theorem sc__law_picked : FnScope ["_law_row_here", "_law_inner", "_law_known", "_law_other"] ["_law_row_here", "_law_inner", "_law_known"] (defScope s__law_picked) := ⟨rfl, rfl, rfl, by decide +kernel, rfl, by decide +kernel, by decide +kernel⟩
theorem sc__law_term : FnScope ["_law_row_here", "_law_inner", "_law_known", "_law_word", "_law_mark", "_law_names", "_law_some", "_law_k", "_law_g"] ["_law_row_here", "_law_inner", "_law_known"] (defScope s__law_term) := ⟨rfl, rfl, rfl, by decide +kernel, rfl, by decide +kernel, by decide +kernel⟩
theorem sc__law_end : FnScope ["_law_value"] ["_law_value"] (defScope s__law_end) := ⟨rfl, rfl, rfl, by decide +kernel, rfl, by decide +kernel, by decide +kernel⟩
theorem sc__law_usable : FnScope ["_law_known", "_law_name"] ["_law_known"] (defScope s__law_usable) := ⟨rfl, rfl, rfl, by decide +kernel, rfl, by decide +kernel, by decide +kernel⟩
theorem sc_law : FnScope ["_law_script", "_law_known", "_law_rows", "_law_stood", "_law_at", "_law_cell", "_law_last", "_law_calls", "_law_term_here", "_law_fuel", "_law_due", "_law_count", "_law_row_here", "_law_found", "_law_told", "_law_step", "_law_after"] ["_law_script"] (defScope s_law) := ⟨rfl, rfl, rfl, by decide +kernel, rfl, by decide +kernel, by decide +kernel⟩
section
variable {P : Program} {w : World} {K : PySem.W.Frag} {mg : Str → Option Value} {base : Heap} {C : Addr}
structure Mb (K : PySem.W.Frag) (mg : Str → Option Value) : Prop where
  bool : mg "bool" = none
  dict : mg "dict" = none
  enumerate : mg "enumerate" = none
  int : mg "int" = none
  isinstance : mg "isinstance" = none
  len : mg "len" = none
  list : mg "list" = none
  range : mg "range" = none
  sorted : mg "sorted" = none
  str : mg "str" = none
  tuple : mg "tuple" = none
  zip : mg "zip" = none
  c_MOST_FUEL : ∃ t, mg "MOST_FUEL" = some (.int 1000000 t)
set_option maxHeartbeats 4000000 in
theorem ok_is_whole {k : Nat} {f : Addr} {fd : FuncData} {F : Fns} (hF : L2.Fun K "is_whole" "is_whole" s_is_whole f fd) (hC : ∀ n, Cal P w K mg base C k (nmS n) (nmA n) (F n)) (mb : Mb K mg) : FnOk P w K mg base CX0 (k + 1) f fd ["thing"] (spF C K 1 (fnD 1 (b_is_whole F))) := by
  refine fn_ok hF sc_is_whole rfl fun cdv A outer s H E hr => ?_
  have nd := sc_is_whole.nd
  have hu := hr.units
  have hu1 := hu_of hr
  have mb_bool := mb.bool
  have mb_int := mb.int
  have mb_isinstance := mb.isinstance
  exact ⟨_, (rss_one (rs_ret (re_and (re_isi (T := "int") (by decide) rfl mb_isinstance rfl mb_int (by decide +kernel) (re_var 0)) (re_one (re_not (re_isi (T := "bool") (by decide) rfl mb_isinstance rfl mb_bool (by decide +kernel) (re_var 0)))))))⟩
set_option maxHeartbeats 4000000 in
theorem ok_meant {k : Nat} {f : Addr} {fd : FuncData} {F : Fns} (hF : L2.Fun K "meant" "meant" s_meant f fd) (hC : ∀ n, Cal P w K mg base C k (nmS n) (nmA n) (F n)) (mb : Mb K mg) : FnOk P w K mg base CX0 (k + 1) f fd ["term", "environment"] (spF C K 2 (fnD 2 (b_meant F))) := by
  refine fn_ok hF sc_meant rfl fun cdv A outer s H E hr => ?_
  have nd := sc_meant.nd
  have hu := hr.units
  have hu1 := hu_of hr
  exact ⟨_, (rss_cons (rs_if (rt_c (rc_eq (L := 64) hu (re_ix (re_var 0) re_int) re_str)) (rss_one (rs_ret (re_dget hu1 (re_var 1) (re_ix (re_var 0) re_int)))) rss_nil)
    (rss_cons (rs_if (rt_w (rw_or (rt_c (rc_eq (L := 64) hu (re_ix (re_var 0) re_int) re_str)) (rw_or (rt_c (rc_eq (L := 64) hu (re_ix (re_var 0) re_int) re_str)) (rw_or1 (rt_c (rc_eq (L := 64) hu (re_ix (re_var 0) re_int) re_str)))))) (rss_one (rs_ret (re_add (re_var 0) (re_tup (ra_cons (re_var 1) ra_nil))))) rss_nil)
    (rss_one (rs_ret (re_var 0)))))⟩
set_option maxHeartbeats 4000000 in
theorem ok_with_names {k : Nat} {f : Addr} {fd : FuncData} {F : Fns} (hF : L2.Fun K "with_names" "with_names" s_with_names f fd) (hC : ∀ n, Cal P w K mg base C k (nmS n) (nmA n) (F n)) (mb : Mb K mg) : FnOk P w K mg base CX0 (k + 1) f fd ["environment", "names", "values"] (spF C K 3 (fnD 6 (b_with_names F))) := by
  refine fn_ok hF sc_with_names rfl fun cdv A outer s H E hr => ?_
  have nd := sc_with_names.nd
  have hu := hr.units
  have hu1 := hu_of hr
  have mb_dict := mb.dict
  have mb_zip := mb.zip
  exact ⟨_, (rss_cons (rs_set 3 nd (re_DM (rd_copy rfl mb_dict (ra_cons (re_var 0) ra_nil))))
    (rss_cons (rs_for PassesOwn.never rfl (ri_zip rfl mb_zip (re_var 1) (re_var 2)) (rg_tup rfl (rgs_cons (rg_name (vs := [4, 5]) 4 (by decide) nd) (rgs_cons (rg_name (vs := [4, 5]) 5 (by decide) nd) rgs_nil))) (rss_one (rs_dput hu1 (re_var 5) (re_var 3) (re_var 4))))
    (rss_one (rs_ret (re_var 3)))))⟩
set_option maxHeartbeats 4000000 in
theorem ok_going_on {k : Nat} {f : Addr} {fd : FuncData} {F : Fns} (hF : L2.Fun K "going_on" "going_on" s_going_on f fd) (hC : ∀ n, Cal P w K mg base C k (nmS n) (nmA n) (F n)) (mb : Mb K mg) : FnOk P w K mg base CX0 (k + 1) f fd ["k", "value", "g"] (spF C K 3 (fnD 3 (b_going_on F))) := by
  refine fn_ok hF sc_going_on rfl fun cdv A outer s H E hr => ?_
  have nd := sc_going_on.nd
  have hu := hr.units
  have hu1 := hu_of hr
  have c_with_names : Cal P w K mg base C k "with_names" 3 (F .with_names) := hC .with_names
  exact ⟨_, (rss_cons (rs_if (rt_c (rc_eq (L := 64) hu (re_ix (re_var 0) re_int) re_str)) (rss_one (rs_ret (re_tup (ra_cons re_str (ra_cons (re_var 1) ra_nil))))) rss_nil)
    (rss_one (rs_ret (re_tup (ra_cons re_str (ra_cons (re_tup (ra_cons (re_ix (re_var 0) re_int) (ra_cons (re_call c_with_names hr rfl (ra_cons (re_ix (re_var 0) re_int) (ra_cons (re_L (rl_lst (ra_cons (re_ix (re_var 0) re_int) (ra_cons (re_ix (re_var 0) re_int) ra_nil)))) (ra_cons (re_L (rl_lst (ra_cons (re_var 1) (ra_cons (re_var 2) ra_nil)))) ra_nil)))) ra_nil))) ra_nil))))))⟩
set_option maxHeartbeats 4000000 in
theorem ok_called_with {k : Nat} {f : Addr} {fd : FuncData} {F : Fns} (hF : L2.Fun K "called_with" "called_with" s_called_with f fd) (hC : ∀ n, Cal P w K mg base C k (nmS n) (nmA n) (F n)) (mb : Mb K mg) : FnOk P w K mg base CX0 (k + 1) f fd ["term", "environment"] (spF C K 2 (fnD 5 (b_called_with F))) := by
  refine fn_ok hF sc_called_with rfl fun cdv A outer s H E hr => ?_
  have nd := sc_called_with.nd
  have hu := hr.units
  have hu1 := hu_of hr
  have c_meant : Cal P w K mg base C k "meant" 2 (F .meant) := hC .meant
  have c_with_names : Cal P w K mg base C k "with_names" 3 (F .with_names) := hC .with_names
  exact ⟨_, (rss_cons (rs_set 2 nd (re_call c_meant hr rfl (ra_cons (re_ix (re_var 0) re_int) (ra_cons (re_var 1) ra_nil))))
    (rss_cons (rs_if (rt_c (rc_ne (L := 64) hu (re_ix (re_var 2) re_int) re_str)) (rss_one (rs_ret (re_tup (ra_cons re_str (ra_cons (re_ix (re_var 0) re_int) ra_nil))))) rss_nil)
    (rss_cons (rs_lc 3 rfl nd (own := [("part", 4)]) (ri_tup (re_slice (re_var 0) (rp_some re_int) rp_none)) (RB.mk (own := [("part", 4)]) (blkOk_by (own := [("part", 4)]) (N := ["term", "environment", "function", "values", "part"]) (sc := defScope s_called_with) (by decide +kernel)) (fun _ _ _ _ _ => ⟨_, (rg_name (vs := [4]) 4 (by decide) nd)⟩) (fun _ _ _ _ _ => ⟨_, rts_nil⟩) (fun _ _ _ _ _ => ⟨_, (re_call c_meant hr rfl (ra_cons (re_var 4) (ra_cons (re_var 1) ra_nil)))⟩)) (hsw := sw_true rfl rfl rfl (by decide +kernel)))
    (rss_one (rs_ret (re_tup (ra_cons re_str (ra_cons (re_tup (ra_cons (re_ix (re_var 2) re_int) (ra_cons (re_call c_with_names hr rfl (ra_cons (re_ix (re_var 2) re_int) (ra_cons (re_L (rl_lst (ra_cons (re_ix (re_var 2) re_int) (ra_cons (re_ix (re_var 2) re_int) (ra_cons (re_ix (re_var 2) re_int) ra_nil))))) (ra_cons (re_var 3) ra_nil)))) ra_nil))) ra_nil))))))))⟩
set_option maxHeartbeats 4000000 in
theorem ok_summed {k : Nat} {f : Addr} {fd : FuncData} {F : Fns} (hF : L2.Fun K "summed" "summed" s_summed f fd) (hC : ∀ n, Cal P w K mg base C k (nmS n) (nmA n) (F n)) (mb : Mb K mg) : FnOk P w K mg base CX0 (k + 1) f fd ["term", "environment"] (spF C K 2 (fnD 7 (b_summed F))) := by
  refine fn_ok hF sc_summed rfl fun cdv A outer s H E hr => ?_
  have nd := sc_summed.nd
  have hu := hr.units
  have hu1 := hu_of hr
  have c_going_on : Cal P w K mg base C k "going_on" 3 (F .going_on) := hC .going_on
  have c_meant : Cal P w K mg base C k "meant" 2 (F .meant) := hC .meant
  exact ⟨_, (rss_cons (rs_set 2 nd (re_call c_meant hr rfl (ra_cons (re_ix (re_var 0) re_int) (ra_cons (re_var 1) ra_nil))))
    (rss_cons (rs_set 3 nd (re_call c_meant hr rfl (ra_cons (re_ix (re_var 0) re_int) (ra_cons (re_var 1) ra_nil))))
    (rss_cons (rs_if (rt_w (rw_or (rt_c (rc_ne (L := 64) hu (re_ix (re_var 2) re_int) re_str)) (rw_or1 (rt_c (rc_ne (L := 64) hu (re_ix (re_var 3) re_int) re_str))))) (rss_one (rs_ret (re_tup (ra_cons re_str (ra_cons (re_ix (re_var 0) re_int) ra_nil))))) rss_nil)
    (rss_cons (rs_set 4 nd (re_tup (ra_cons re_str (ra_cons (re_add (re_ix (re_var 2) re_int) (re_ix (re_var 3) re_int)) ra_nil))))
    (rss_cons (rs_asg (re_call c_going_on hr rfl (ra_cons (re_call c_meant hr rfl (ra_cons (re_ix (re_var 0) re_int) (ra_cons (re_var 1) ra_nil))) (ra_cons (re_var 4) (ra_cons (re_call c_meant hr rfl (ra_cons (re_ix (re_var 0) re_int) (ra_cons (re_var 1) ra_nil))) ra_nil)))) (rg_tup rfl (rgs_cons (rg_name (vs := [5, 6]) 5 (by decide) nd) (rgs_cons (rg_name (vs := [5, 6]) 6 (by decide) nd) rgs_nil))))
    (rss_one (rs_ret (re_tup (ra_cons (re_add re_str (re_var 5)) (ra_cons (re_var 6) ra_nil))))))))))⟩
set_option maxHeartbeats 4000000 in
theorem ok_chosen_of {k : Nat} {f : Addr} {fd : FuncData} {F : Fns} (hF : L2.Fun K "chosen_of" "chosen_of" s_chosen_of f fd) (hC : ∀ n, Cal P w K mg base C k (nmS n) (nmA n) (F n)) (mb : Mb K mg) : FnOk P w K mg base CX0 (k + 1) f fd ["term", "environment"] (spF C K 2 (fnD 3 (b_chosen_of F))) := by
  refine fn_ok hF sc_chosen_of rfl fun cdv A outer s H E hr => ?_
  have nd := sc_chosen_of.nd
  have hu := hr.units
  have hu1 := hu_of hr
  have c_meant : Cal P w K mg base C k "meant" 2 (F .meant) := hC .meant
  exact ⟨_, (rss_cons (rs_set 2 nd (re_call c_meant hr rfl (ra_cons (re_ix (re_var 0) re_int) (ra_cons (re_var 1) ra_nil))))
    (rss_cons (rs_if (rt_c (rc_ne (L := 64) hu (re_ix (re_var 2) re_int) re_str)) (rss_one (rs_ret (re_tup (ra_cons re_str (ra_cons (re_ix (re_var 0) re_int) ra_nil))))) rss_nil)
    (rss_one (rs_ret (re_tup (ra_cons re_str (ra_cons (re_tup (ra_cons (re_if (rt_c (rc_eq (L := 64) hu (re_ix (re_var 2) re_int) re_int)) (re_ix (re_var 0) re_int) (re_ix (re_var 0) re_int)) (ra_cons (re_var 1) ra_nil))) ra_nil)))))))⟩
set_option maxHeartbeats 4000000 in
theorem ok_gone_on {k : Nat} {f : Addr} {fd : FuncData} {F : Fns} (hF : L2.Fun K "gone_on" "gone_on" s_gone_on f fd) (hC : ∀ n, Cal P w K mg base C k (nmS n) (nmA n) (F n)) (mb : Mb K mg) : FnOk P w K mg base CX0 (k + 1) f fd ["term", "environment"] (spF C K 2 (fnD 5 (b_gone_on F))) := by
  refine fn_ok hF sc_gone_on rfl fun cdv A outer s H E hr => ?_
  have nd := sc_gone_on.nd
  have hu := hr.units
  have hu1 := hu_of hr
  have c_called_with : Cal P w K mg base C k "called_with" 2 (F .called_with) := hC .called_with
  have c_chosen_of : Cal P w K mg base C k "chosen_of" 2 (F .chosen_of) := hC .chosen_of
  have c_going_on : Cal P w K mg base C k "going_on" 3 (F .going_on) := hC .going_on
  have c_meant : Cal P w K mg base C k "meant" 2 (F .meant) := hC .meant
  have c_summed : Cal P w K mg base C k "summed" 2 (F .summed) := hC .summed
  have c_with_names : Cal P w K mg base C k "with_names" 3 (F .with_names) := hC .with_names
  exact ⟨_, (rss_cons (rs_set 2 nd (re_ix (re_var 0) re_int))
    (rss_cons (rs_if (rt_c (rc_eq (L := 64) hu (re_var 2) re_str)) (rss_one (rs_ret (re_call c_going_on hr rfl (ra_cons (re_call c_meant hr rfl (ra_cons (re_ix (re_var 0) re_int) (ra_cons (re_var 1) ra_nil))) (ra_cons (re_call c_meant hr rfl (ra_cons (re_ix (re_var 0) re_int) (ra_cons (re_var 1) ra_nil))) (ra_cons (re_call c_meant hr rfl (ra_cons (re_ix (re_var 0) re_int) (ra_cons (re_var 1) ra_nil))) ra_nil)))))) rss_nil)
    (rss_cons (rs_if (rt_c (rc_eq (L := 64) hu (re_var 2) re_str)) (rss_one (rs_ret (re_tup (ra_cons re_str (ra_cons (re_tup (ra_cons (re_ix (re_var 0) re_int) (ra_cons (re_call c_with_names hr rfl (ra_cons (re_var 1) (ra_cons (re_L (rl_lst (ra_cons (re_ix (re_var 0) re_int) ra_nil))) (ra_cons (re_L (rl_lst (ra_cons (re_call c_meant hr rfl (ra_cons (re_ix (re_var 0) re_int) (ra_cons (re_var 1) ra_nil))) ra_nil))) ra_nil)))) ra_nil))) ra_nil))))) rss_nil)
    (rss_cons (rs_if (rt_c (rc_eq (L := 64) hu (re_var 2) re_str)) (rss_cons (rs_set 3 nd (re_call c_meant hr rfl (ra_cons (re_ix (re_var 0) re_int) (ra_cons (re_var 1) ra_nil))))
    (rss_one (rs_ret (re_tup (ra_cons re_str (ra_cons (re_tup (ra_cons (re_ix (re_var 3) re_int) (ra_cons (re_call c_with_names hr rfl (ra_cons (re_ix (re_var 3) re_int) (ra_cons (re_L (rl_lst (ra_cons (re_ix (re_var 3) re_int) ra_nil))) (ra_cons (re_L (rl_lst (ra_cons (re_call c_meant hr rfl (ra_cons (re_ix (re_var 0) re_int) (ra_cons (re_var 1) ra_nil))) ra_nil))) ra_nil)))) ra_nil))) ra_nil)))))) rss_nil)
    (rss_cons (rs_if (rt_c (rc_eq (L := 64) hu (re_var 2) re_str)) (rss_cons (rs_asg (re_call c_going_on hr rfl (ra_cons (re_call c_meant hr rfl (ra_cons (re_ix (re_var 0) re_int) (ra_cons (re_var 1) ra_nil))) (ra_cons (re_call c_meant hr rfl (ra_cons (re_ix (re_var 0) re_int) (ra_cons (re_var 1) ra_nil))) (ra_cons (re_call c_meant hr rfl (ra_cons (re_ix (re_var 0) re_int) (ra_cons (re_var 1) ra_nil))) ra_nil)))) (rg_tup rfl (rgs_cons (rg_name (vs := [2, 4]) 2 (by decide) nd) (rgs_cons (rg_name (vs := [2, 4]) 4 (by decide) nd) rgs_nil))))
    (rss_one (rs_ret (re_tup (ra_cons (re_add re_str (re_var 2)) (ra_cons (re_var 4) ra_nil)))))) rss_nil)
    (rss_cons (rs_if (rt_c (rc_eq (L := 64) hu (re_var 2) re_str)) (rss_one (rs_ret (re_call c_called_with hr rfl (ra_cons (re_var 0) (ra_cons (re_var 1) ra_nil))))) rss_nil)
    (rss_cons (rs_if (rt_c (rc_eq (L := 64) hu (re_var 2) re_str)) (rss_one (rs_ret (re_call c_summed hr rfl (ra_cons (re_var 0) (ra_cons (re_var 1) ra_nil))))) rss_nil)
    (rss_cons (rs_if (rt_c (rc_eq (L := 64) hu (re_var 2) re_str)) (rss_one (rs_ret (re_call c_chosen_of hr rfl (ra_cons (re_var 0) (ra_cons (re_var 1) ra_nil))))) rss_nil)
    (rss_cons (rs_if (rt_c (rc_eq (L := 64) hu (re_ix (re_call c_meant hr rfl (ra_cons (re_ix (re_var 0) re_int) (ra_cons (re_var 1) ra_nil))) re_int) re_str)) (rss_one (rs_ret (re_tup (ra_cons re_str (ra_cons (re_ix (re_var 0) re_int) ra_nil))))) rss_nil)
    (rss_one (rs_ret (re_tup (ra_cons re_str (ra_cons (re_tup (ra_cons (re_ix (re_var 0) re_int) (ra_cons (re_var 1) ra_nil))) ra_nil))))))))))))))⟩
set_option maxHeartbeats 4000000 in
theorem ok_told_of {k : Nat} {f : Addr} {fd : FuncData} {F : Fns} (hF : L2.Fun K "told_of" "told_of" s_told_of f fd) (hC : ∀ n, Cal P w K mg base C k (nmS n) (nmA n) (F n)) (mb : Mb K mg) : FnOk P w K mg base CX0 (k + 1) f fd ["value"] (spF C K 1 (fnD 1 (b_told_of F))) := by
  refine fn_ok hF sc_told_of rfl fun cdv A outer s H E hr => ?_
  have nd := sc_told_of.nd
  have hu := hr.units
  have hu1 := hu_of hr
  exact ⟨_, (rss_cons (rs_if (rt_c (rc_eq (L := 64) hu (re_ix (re_var 0) re_int) re_str)) (rss_one (rs_ret (re_tup (ra_cons re_str (ra_cons (re_ix (re_var 0) re_int) ra_nil))))) rss_nil)
    (rss_one (rs_ret (re_tup (ra_cons (re_ix (re_var 0) re_int) (ra_cons (re_ix (re_var 0) re_int) ra_nil))))))⟩
set_option maxHeartbeats 4000000 in
theorem ok_run_plain {k : Nat} {f : Addr} {fd : FuncData} {F : Fns} (hF : L2.Fun K "run_plain" "run_plain" s_run_plain f fd) (hC : ∀ n, Cal P w K mg base C k (nmS n) (nmA n) (F n)) (mb : Mb K mg) : FnOk P w K mg base CX0 (k + 1) f fd ["term", "fuel"] (spF C K 2 (fnD 5 (b_run_plain F))) := by
  refine fn_ok hF sc_run_plain rfl fun cdv A outer s H E hr => ?_
  have nd := sc_run_plain.nd
  have hu := hr.units
  have hu1 := hu_of hr
  obtain ⟨tk_MOST_FUEL, mc_MOST_FUEL⟩ := mb.c_MOST_FUEL
  have c_gone_on : Cal P w K mg base C k "gone_on" 2 (F .gone_on) := hC .gone_on
  have c_is_whole : Cal P w K mg base C k "is_whole" 1 (F .is_whole) := hC .is_whole
  have c_told_of : Cal P w K mg base C k "told_of" 1 (F .told_of) := hC .told_of
  exact ⟨_, (rss_cons (rs_if (rt_w (rw_or (rt_not (rt_val (re_call c_is_whole hr rfl (ra_cons (re_var 1) ra_nil)))) (rw_or1 (rt_not (rt_c (rc_lele re_int (re_var 1) (re_gInt rfl mc_MOST_FUEL ⟨_, rfl⟩))))))) (rss_one rs_never) rss_nil)
    (rss_cons (rs_set 2 nd re_int)
    (rss_cons (rs_set 3 nd (re_tup (ra_cons (re_var 0) (ra_cons (re_Di rd_new) ra_nil))))
    (rss_one (rs_while PassesOwn.never (rt_val re_bl) (rss_cons (rs_asg (re_call c_gone_on hr rfl (ra_cons (re_ix (re_var 3) re_int) (ra_cons (re_ix (re_var 3) re_int) ra_nil))) (rg_tup rfl (rgs_cons (rg_name (vs := [4, 3]) 4 (by decide) nd) (rgs_cons (rg_name (vs := [4, 3]) 3 (by decide) nd) rgs_nil))))
    (rss_cons (rs_if (rt_c (rc_eq (L := 64) hu (re_var 4) re_str)) (rss_one (rs_ret (re_tup (ra_cons re_str (ra_cons (re_var 3) ra_nil))))) rss_nil)
    (rss_cons (rs_if (rt_val (re_starts (re_var 4) re_str)) (rss_cons (rs_if (rt_c (rc_eq (L := 64) hu (re_var 2) (re_var 1))) (rss_one (rs_ret (re_tup (ra_cons re_str ra_nil)))) rss_nil)
    (rss_one (rs_set 2 nd (re_add (re_var 2) re_int)))) rss_nil)
    (rss_one (rs_if (rt_val (re_ends (re_var 4) re_str)) (rss_one (rs_ret (re_call c_told_of hr rfl (ra_cons (re_var 3) ra_nil)))) rss_nil))))))))))⟩
set_option maxHeartbeats 4000000 in
theorem ok__law_cell_at {k : Nat} {f : Addr} {fd : FuncData} {F : Fns} (hF : L2.Fun K "_law_cell_at" "_law_cell_at" s__law_cell_at f fd) (hC : ∀ n, Cal P w K mg base C k (nmS n) (nmA n) (F n)) (mb : Mb K mg) : FnOk P w K mg base CX0 (k + 1) f fd ["_law_script", "_law_k"] (spF C K 2 (fnD 2 (b__law_cell_at F))) := by
  refine fn_ok hF sc__law_cell_at rfl fun cdv A outer s H E hr => ?_
  have nd := sc__law_cell_at.nd
  have hu := hr.units
  have hu1 := hu_of hr
  have mb_len := mb.len
  exact ⟨_, (rss_cons (rs_if (rt_c (rc_lt (re_var 1) (re_callB call_lenX s_len rfl mb_len PySem.boot_len (ra_cons (re_var 0) ra_nil)))) (rss_one (rs_ret (re_ix (re_var 0) (re_var 1)))) rss_nil)
    (rss_one (rs_ret re_int)))⟩
set_option maxHeartbeats 4000000 in
theorem ok__law_mixed {k : Nat} {f : Addr} {fd : FuncData} {F : Fns} (hF : L2.Fun K "_law_mixed" "_law_mixed" s__law_mixed f fd) (hC : ∀ n, Cal P w K mg base C k (nmS n) (nmA n) (F n)) (mb : Mb K mg) : FnOk P w K mg base CX0 (k + 1) f fd ["_law_number"] (spF C K 1 (fnD 2 (b__law_mixed F))) := by
  refine fn_ok hF sc__law_mixed rfl fun cdv A outer s H E hr => ?_
  have nd := sc__law_mixed.nd
  have hu := hr.units
  have hu1 := hu_of hr
  exact ⟨_, (rss_cons (rs_set 1 nd (re_mod (re_add (re_mul (re_var 0) re_int) re_int) re_int))
    (rss_one (rs_ret (re_mod (re_add (re_mul (re_var 1) (re_var 1)) (re_div (re_var 1) re_int)) re_int))))⟩
set_option maxHeartbeats 4000000 in
theorem ok__law_fresh {k : Nat} {f : Addr} {fd : FuncData} {F : Fns} (hF : L2.Fun K "_law_fresh" "_law_fresh" s__law_fresh f fd) (hC : ∀ n, Cal P w K mg base C k (nmS n) (nmA n) (F n)) (mb : Mb K mg) : FnOk P w K mg base CX0 (k + 1) f fd ["_law_mix"] (spF C K 1 (fnD 1 (b__law_fresh F))) := by
  refine fn_ok hF sc__law_fresh rfl fun cdv A outer s H E hr => ?_
  have nd := sc__law_fresh.nd
  have hu := hr.units
  have hu1 := hu_of hr
  have mb_str := mb.str
  exact ⟨_, (rss_one (rs_ret (re_ix (re_L (rl_lst (ra_cons re_str (ra_cons re_str (ra_cons (re_add re_str (re_callTy call_str_int s_strI rfl mb_str (by decide +kernel) (ra_cons (re_mod (re_var 0) re_int) ra_nil))) (ra_cons re_str (ra_cons (re_add re_str (re_callTy call_str_int s_strI rfl mb_str (by decide +kernel) (ra_cons (re_mod (re_var 0) re_int) ra_nil))) ra_nil))))))) (re_mod (re_div (re_var 0) re_int) re_int))))⟩
set_option maxHeartbeats 4000000 in
theorem ok__law_simple_by {k : Nat} {f : Addr} {fd : FuncData} {F : Fns} (hF : L2.Fun K "_law_simple_by" "_law_simple_by" s__law_simple_by f fd) (hC : ∀ n, Cal P w K mg base C k (nmS n) (nmA n) (F n)) (mb : Mb K mg) : FnOk P w K mg base CX0 (k + 1) f fd ["_law_known", "_law_mix"] (spF C K 2 (fnD 3 (b__law_simple_by F))) := by
  refine fn_ok hF sc__law_simple_by rfl fun cdv A outer s H E hr => ?_
  have nd := sc__law_simple_by.nd
  have hu := hr.units
  have hu1 := hu_of hr
  have mb_len := mb.len
  have mb_list := mb.list
  have mb_sorted := mb.sorted
  exact ⟨_, (rss_cons (rs_set 2 nd (re_L (rl_sorted rfl mb_sorted (ra_cons (re_L (rl_callTy (call_list_dK rfl) s_listD rfl mb_list (by decide +kernel) (ra_cons (re_var 0) ra_nil))) ra_nil))))
    (rss_cons (rs_if (rt_w (rw_and (rt_c (rc_ne (L := 64) hu (re_var 2) (re_L (rl_lst ra_nil)))) (rw_and1 (rt_c (rc_gt (re_mod (re_var 1) re_int) re_int))))) (rss_one (rs_ret (re_tup (ra_cons re_str (ra_cons (re_ix (re_var 2) (re_mod (re_div (re_var 1) re_int) (re_callB call_lenX s_len rfl mb_len PySem.boot_len (ra_cons (re_var 2) ra_nil)))) ra_nil))))) rss_nil)
    (rss_one (rs_ret (re_tup (ra_cons re_str (ra_cons (re_sub (re_mod (re_div (re_var 1) re_int) re_int) re_int) ra_nil)))))))⟩
set_option maxHeartbeats 4000000 in
theorem ok__law_meant {k : Nat} {f : Addr} {fd : FuncData} {F : Fns} (hF : L2.Fun K "_law_meant" "_law_meant" s__law_meant f fd) (hC : ∀ n, Cal P w K mg base C k (nmS n) (nmA n) (F n)) (mb : Mb K mg) : FnOk P w K mg base CX0 (k + 1) f fd ["_law_term_here", "_law_known"] (spF C K 2 (fnD 2 (b__law_meant F))) := by
  refine fn_ok hF sc__law_meant rfl fun cdv A outer s H E hr => ?_
  have nd := sc__law_meant.nd
  have hu := hr.units
  have hu1 := hu_of hr
  exact ⟨_, (rss_cons (rs_if (rt_c (rc_eq (L := 64) hu (re_ix (re_var 0) re_int) re_str)) (rss_one (rs_ret (re_dget hu1 (re_var 1) (re_ix (re_var 0) re_int)))) rss_nil)
    (rss_cons (rs_if (rt_w (rw_and (rt_c (rc_eq (L := 64) hu (re_ix (re_var 0) re_int) re_str)) (rw_and1 (rt_c (rc_eq (L := 64) hu (re_ix (re_ix (re_var 0) re_int) re_int) re_str))))) (rss_one (rs_ret (re_tup (ra_cons re_str (ra_cons (re_ix (re_var 0) re_int) (ra_cons (re_ix (re_var 0) re_int) (ra_cons (re_ix (re_ix (re_var 0) re_int) re_int) (ra_cons (re_dget hu1 (re_var 1) (re_ix (re_ix (re_ix (re_var 0) re_int) re_int) re_int)) ra_nil)))))))) rss_nil)
    (rss_one (rs_ret (re_slice (re_var 0) rp_none (rp_some re_int))))))⟩
set_option maxHeartbeats 4000000 in
theorem ok__law_code_by {k : Nat} {f : Addr} {fd : FuncData} {F : Fns} (hF : L2.Fun K "_law_code_by" "_law_code_by" s__law_code_by f fd) (hC : ∀ n, Cal P w K mg base C k (nmS n) (nmA n) (F n)) (mb : Mb K mg) : FnOk P w K mg base CX0 (k + 1) f fd ["_law_known", "_law_mix"] (spF C K 2 (fnD 6 (b__law_code_by F))) := by
  refine fn_ok hF sc__law_code_by rfl fun cdv A outer s H E hr => ?_
  have nd := sc__law_code_by.nd
  have hu := hr.units
  have hu1 := hu_of hr
  have mb_len := mb.len
  have mb_list := mb.list
  have mb_sorted := mb.sorted
  exact ⟨_, (rss_cons (rs_lc 2 rfl nd (own := [("_law_name", 5)]) (ri_list (re_L (rl_sorted rfl mb_sorted (ra_cons (re_L (rl_callTy (call_list_dK rfl) s_listD rfl mb_list (by decide +kernel) (ra_cons (re_var 0) ra_nil))) ra_nil)))) (RB.mk (own := [("_law_name", 5)]) (blkOk_by (own := [("_law_name", 5)]) (N := ["_law_known", "_law_mix", "_law_names", "_law_body", "_law_other", "_law_name"]) (sc := defScope s__law_code_by) (by decide +kernel)) (fun _ _ _ _ _ => ⟨_, (rg_name (vs := [5]) 5 (by decide) nd)⟩) (fun _ _ _ _ _ => ⟨_, (rts_one (rt_w (rw_and (rt_c (rc_eq (L := 64) hu (re_ix (re_dget hu1 (re_var 0) (re_var 5)) re_int) re_str)) (rw_and1 (rt_c (rc_notin (re_var 5) (re_L (rl_lst (ra_cons re_str (ra_cons re_str (ra_cons re_str ra_nil)))))))))))⟩) (fun _ _ _ _ _ => ⟨_, (re_var 5)⟩)) (hsw := sw_true rfl rfl rfl (by decide +kernel)))
    (rss_cons (rs_set 3 nd (re_tup (ra_cons re_str (ra_cons (re_tup (ra_cons re_str (ra_cons re_str ra_nil))) (ra_cons (re_tup (ra_cons re_str (ra_cons re_str ra_nil))) (ra_cons (re_tup (ra_cons re_str (ra_cons re_str ra_nil))) ra_nil))))))
    (rss_cons (rs_if (rt_w (rw_and (rt_c (rc_ne (L := 64) hu (re_var 2) (re_L (rl_lst ra_nil)))) (rw_and1 (rt_c (rc_gt (re_mod (re_var 1) re_int) re_int))))) (rss_cons (rs_set 4 nd (re_tup (ra_cons re_str (ra_cons (re_ix (re_var 2) (re_mod (re_div (re_var 1) re_int) (re_callB call_lenX s_len rfl mb_len PySem.boot_len (ra_cons (re_var 2) ra_nil)))) ra_nil))))
    (rss_one (rs_set 3 nd (re_tup (ra_cons re_str (ra_cons (re_mod (re_div (re_var 1) re_int) re_int) (ra_cons (re_tup (ra_cons re_str (ra_cons re_str ra_nil))) (ra_cons (re_var 4) (ra_cons (re_tup (ra_cons re_str (ra_cons re_str ra_nil))) (ra_cons (re_tup (ra_cons re_str (ra_cons re_str ra_nil))) ra_nil)))))))))) rss_nil)
    (rss_one (rs_ret (re_tup (ra_cons re_str (ra_cons (re_ix (re_L (rl_lst (ra_cons re_str (ra_cons re_str ra_nil)))) (re_mod (re_var 1) re_int)) (ra_cons (re_mod (re_div (re_var 1) re_int) re_int) (ra_cons re_str (ra_cons re_str (ra_cons re_str (ra_cons (re_var 3) ra_nil)))))))))))))⟩
set_option maxHeartbeats 4000000 in
theorem ok__law_row {k : Nat} {f : Addr} {fd : FuncData} {F : Fns} (hF : L2.Fun K "_law_row" "_law_row" s__law_row f fd) (hC : ∀ n, Cal P w K mg base C k (nmS n) (nmA n) (F n)) (mb : Mb K mg) : FnOk P w K mg base CX0 (k + 1) f fd ["_law_known", "_law_mix"] (spF C K 2 (fnD 8 (b__law_row F))) := by
  refine fn_ok hF sc__law_row rfl fun cdv A outer s H E hr => ?_
  have nd := sc__law_row.nd
  have hu := hr.units
  have hu1 := hu_of hr
  have mb_int := mb.int
  have mb_len := mb.len
  have mb_list := mb.list
  have mb_sorted := mb.sorted
  have c__law_behind : Cal P w K mg base C k "_law_behind" 2 (F ._law_behind) := hC ._law_behind
  have c__law_code_by : Cal P w K mg base C k "_law_code_by" 2 (F ._law_code_by) := hC ._law_code_by
  have c__law_fresh : Cal P w K mg base C k "_law_fresh" 1 (F ._law_fresh) := hC ._law_fresh
  have c__law_simple_by : Cal P w K mg base C k "_law_simple_by" 2 (F ._law_simple_by) := hC ._law_simple_by
  exact ⟨_, (rss_frzL2 2 (rs_set 2 nd (re_LM (rl_lst (ra_cons (re_call c__law_fresh hr rfl (ra_cons (re_div (re_var 1) re_int) ra_nil)) (ra_cons (re_call c__law_fresh hr rfl (ra_cons (re_div (re_var 1) re_int) ra_nil)) ra_nil))))) (rs_if (rt_c (rc_eq (L := 64) hu (re_ix (re_var 2) re_int) (re_ix (re_var 2) re_int))) (rss_one (rs_setIx (fun h1 h2 => pg_sub h1 h2 set_list) re_str (re_var 2) re_int)) rss_nil)
    (rss_frzL4 3 (rs_set 3 nd (re_LM (rl_lst (ra_cons (re_call c__law_simple_by hr rfl (ra_cons (re_var 0) (ra_cons (re_div (re_var 1) re_int) ra_nil))) (ra_cons (re_call c__law_simple_by hr rfl (ra_cons (re_var 0) (ra_cons (re_div (re_var 1) re_int) ra_nil))) ra_nil))))) (rs_if (rt_w (rw_or (rt_c (rc_eq (L := 64) hu (re_mod (re_div (re_var 1) re_int) re_int) re_int)) (rw_or1 (rt_c (rc_eq (L := 64) hu (re_mod (re_var 1) re_int) re_int))))) (rss_one (rs_setIx (fun h1 h2 => pg_sub h1 h2 set_list) (re_call c__law_code_by hr rfl (ra_cons (re_var 0) (ra_cons (re_div (re_var 1) re_int) ra_nil))) (re_var 3) re_int)) rss_nil) (rs_lc 4 rfl nd (own := [("_law_name", 7)]) (ri_list (re_L (rl_sorted rfl mb_sorted (ra_cons (re_L (rl_callTy (call_list_dK rfl) s_listD rfl mb_list (by decide +kernel) (ra_cons (re_var 0) ra_nil))) ra_nil)))) (RB.mk (own := [("_law_name", 7)]) (blkOk_by (own := [("_law_name", 7)]) (N := ["_law_known", "_law_mix", "_law_names", "_law_some", "_law_codes", "_law_words", "_law_row_here", "_law_name"]) (sc := defScope s__law_row) (by decide +kernel)) (fun _ _ _ _ _ => ⟨_, (rg_name (vs := [7]) 7 (by decide) nd)⟩) (fun _ _ _ _ _ => ⟨_, (rts_one (rt_c (rc_eq (L := 64) hu (re_ix (re_dget hu1 (re_var 0) (re_var 7)) re_int) re_str)))⟩) (fun _ _ _ _ _ => ⟨_, (re_var 7)⟩)) (hsw := sw_true rfl rfl rfl (by decide +kernel))) (rs_if (rt_w (rw_and (rt_c (rc_eq (L := 64) hu (re_mod (re_var 1) re_int) re_int)) (rw_and (rt_c (rc_ne (L := 64) hu (re_var 4) (re_L (rl_lst ra_nil)))) (rw_and1 (rt_c (rc_gt (re_mod (re_div (re_var 1) re_int) re_int) re_int)))))) (rss_one (rs_setIx (fun h1 h2 => pg_sub h1 h2 set_list) (re_tup (ra_cons re_str (ra_cons (re_ix (re_var 4) (re_mod (re_div (re_var 1) re_int) (re_callB call_lenX s_len rfl mb_len PySem.boot_len (ra_cons (re_var 4) ra_nil)))) ra_nil))) (re_var 3) re_int)) rss_nil)
    (rss_cons (rs_set 5 nd (re_L (rl_lst (ra_cons re_str (ra_cons re_str (ra_cons re_str (ra_cons re_str (ra_cons re_str (ra_cons re_str (ra_cons re_str (ra_cons re_str (ra_cons re_str (ra_cons re_str ra_nil)))))))))))))
    (rss_cons (rs_set 6 nd (re_tup (ra_cons (re_ix (re_var 5) (re_add (re_mod (re_var 1) re_int) (re_mul re_int (re_callTy call_int1 s_int rfl mb_int (by decide +kernel) (ra_cons (re_and (re_c (rc_eq (L := 64) hu (re_mod (re_div (re_var 1) re_int) re_int) re_int)) (re_one (re_c (rc_gt (re_mod (re_var 1) re_int) re_int)))) ra_nil))))) (ra_cons (re_mod (re_div (re_var 1) re_int) re_int) (ra_cons (re_var 2) (ra_cons (re_var 3) ra_nil))))))
    (rss_cons (rs_if (rt_w (rw_and (rt_c (rc_gt (re_mod (re_div (re_var 1) re_int) re_int) re_int)) (rw_and1 (rt_c (rc_isnot (re_ix (re_call c__law_behind hr rfl (ra_cons (re_var 6) (ra_cons (re_var 0) ra_nil))) re_int) re_non))))) (rss_one (rs_ret (re_add (re_tup (ra_cons re_str ra_nil)) (re_slice (re_var 6) (rp_some re_int) rp_none)))) rss_nil)
    (rss_one (rs_ret (re_var 6))))))))⟩
set_option maxHeartbeats 4000000 in
theorem ok__law_known_after {k : Nat} {f : Addr} {fd : FuncData} {F : Fns} (hF : L2.Fun K "_law_known_after" "_law_known_after" s__law_known_after f fd) (hC : ∀ n, Cal P w K mg base C k (nmS n) (nmA n) (F n)) (mb : Mb K mg) : FnOk P w K mg base CX0 (k + 1) f fd ["_law_known", "_law_names", "_law_values"] (spF C K 3 (fnD 6 (b__law_known_after F))) := by
  refine fn_ok hF sc__law_known_after rfl fun cdv A outer s H E hr => ?_
  have nd := sc__law_known_after.nd
  have hu := hr.units
  have hu1 := hu_of hr
  have mb_dict := mb.dict
  have mb_zip := mb.zip
  exact ⟨_, (rss_cons (rs_set 3 nd (re_DM (rd_copy rfl mb_dict (ra_cons (re_var 0) ra_nil))))
    (rss_cons (rs_for PassesOwn.never rfl (ri_zip rfl mb_zip (re_var 1) (re_var 2)) (rg_tup rfl (rgs_cons (rg_name (vs := [4, 5]) 4 (by decide) nd) (rgs_cons (rg_name (vs := [4, 5]) 5 (by decide) nd) rgs_nil))) (rss_one (rs_dput hu1 (re_var 5) (re_var 3) (re_var 4))))
    (rss_one (rs_ret (re_var 3)))))⟩
set_option maxHeartbeats 4000000 in
theorem ok__law_bound {k : Nat} {f : Addr} {fd : FuncData} {F : Fns} (hF : L2.Fun K "_law_bound" "_law_bound" s__law_bound f fd) (hC : ∀ n, Cal P w K mg base C k (nmS n) (nmA n) (F n)) (mb : Mb K mg) : FnOk P w K mg base CX0 (k + 1) f fd ["_law_row_here", "_law_known", "_law_value", "_law_step"] (spF C K 4 (fnD 5 (b__law_bound F))) := by
  refine fn_ok hF sc__law_bound rfl fun cdv A outer s H E hr => ?_
  have nd := sc__law_bound.nd
  have hu := hr.units
  have hu1 := hu_of hr
  have mb_int := mb.int
  have c__law_known_after : Cal P w K mg base C k "_law_known_after" 3 (F ._law_known_after) := hC ._law_known_after
  exact ⟨_, (rss_cons (rs_set 4 nd (re_mod (re_ix (re_var 0) re_int) re_int))
    (rss_cons (rs_if (rt_c (rc_eq (L := 64) hu (re_var 4) re_int)) (rss_one (rs_ret (re_tup (ra_cons re_non (ra_cons (re_call c__law_known_after hr rfl (ra_cons (re_var 1) (ra_cons (re_slice (re_ix (re_var 0) re_int) rp_none (rp_some re_int)) (ra_cons (re_L (rl_lst (ra_cons (re_var 2) ra_nil))) ra_nil)))) (ra_cons (re_add (re_var 3) re_int) ra_nil)))))) rss_nil)
    (rss_one (rs_ret (re_tup (ra_cons re_non (ra_cons (re_call c__law_known_after hr rfl (ra_cons (re_var 1) (ra_cons (re_ix (re_var 0) re_int) (ra_cons (re_L (rl_lst (ra_cons (re_var 2) (ra_cons (re_tup (ra_cons re_str ra_nil)) ra_nil)))) ra_nil)))) (ra_cons (re_add (re_var 3) (re_callTy call_int1 s_int rfl mb_int (by decide +kernel) (ra_cons (re_c (rc_eq (L := 64) hu (re_var 4) re_int)) ra_nil))) ra_nil))))))))⟩
set_option maxHeartbeats 4000000 in
theorem ok__law_called {k : Nat} {f : Addr} {fd : FuncData} {F : Fns} (hF : L2.Fun K "_law_called" "_law_called" s__law_called f fd) (hC : ∀ n, Cal P w K mg base C k (nmS n) (nmA n) (F n)) (mb : Mb K mg) : FnOk P w K mg base CX0 (k + 1) f fd ["_law_row_here", "_law_known", "_law_values"] (spF C K 3 (fnD 3 (b__law_called F))) := by
  refine fn_ok hF sc__law_called rfl fun cdv A outer s H E hr => ?_
  have nd := sc__law_called.nd
  have hu := hr.units
  have hu1 := hu_of hr
  have mb_len := mb.len
  have c__law_bound : Cal P w K mg base C k "_law_bound" 4 (F ._law_bound) := hC ._law_bound
  exact ⟨_, (rss_cons (rs_if (rt_c (rc_ne (L := 64) hu (re_ix (re_ix (re_var 2) re_int) re_int) re_str)) (rss_one (rs_ret (re_tup (ra_cons (re_tup (ra_cons re_str (ra_cons (re_ix (re_var 0) re_int) ra_nil))) (ra_cons (re_var 1) (ra_cons re_int ra_nil)))))) rss_nil)
    (rss_cons (rs_if (rt_c (rc_eq (L := 64) hu (re_callB call_lenX s_len rfl mb_len PySem.boot_len (ra_cons (re_ix (re_var 2) re_int) ra_nil)) re_int)) (rss_one (rs_ret (re_call c__law_bound hr rfl (ra_cons (re_var 0) (ra_cons (re_var 1) (ra_cons (re_ix (re_var 2) re_int) (ra_cons re_int ra_nil))))))) rss_nil)
    (rss_cons (rs_if (rt_w (rw_or (rt_c (rc_ne (L := 64) hu (re_ix (re_ix (re_var 2) re_int) re_int) re_str)) (rw_or1 (rt_c (rc_ne (L := 64) hu (re_ix (re_ix (re_ix (re_var 2) re_int) re_int) re_int) re_str))))) (rss_one (rs_ret (re_tup (ra_cons (re_tup (ra_cons re_str (ra_cons (re_ix (re_ix (re_var 2) re_int) re_int) ra_nil))) (ra_cons (re_var 1) (ra_cons re_int ra_nil)))))) rss_nil)
    (rss_one (rs_ret (re_call c__law_bound hr rfl (ra_cons (re_var 0) (ra_cons (re_var 1) (ra_cons (re_tup (ra_cons re_str (ra_cons (re_add (re_ix (re_ix (re_var 2) re_int) re_int) (re_ix (re_ix (re_ix (re_var 2) re_int) re_int) re_int)) ra_nil))) (ra_cons re_int ra_nil))))))))))⟩
set_option maxHeartbeats 4000000 in
theorem ok__law_turned {k : Nat} {f : Addr} {fd : FuncData} {F : Fns} (hF : L2.Fun K "_law_turned" "_law_turned" s__law_turned f fd) (hC : ∀ n, Cal P w K mg base C k (nmS n) (nmA n) (F n)) (mb : Mb K mg) : FnOk P w K mg base CX0 (k + 1) f fd ["_law_row_here", "_law_known"] (spF C K 2 (fnD 3 (b__law_turned F))) := by
  refine fn_ok hF sc__law_turned rfl fun cdv A outer s H E hr => ?_
  have nd := sc__law_turned.nd
  have hu := hr.units
  have hu1 := hu_of hr
  have mb_len := mb.len
  have mb_list := mb.list
  have mb_sorted := mb.sorted
  exact ⟨_, (rss_cons (rs_set 2 nd (re_add (re_L (rl_sorted rfl mb_sorted (ra_cons (re_L (rl_callTy (call_list_dK rfl) s_listD rfl mb_list (by decide +kernel) (ra_cons (re_var 1) ra_nil))) ra_nil))) (re_L (rl_lst (ra_cons re_str ra_nil)))))
    (rss_one (rs_ret (re_ix (re_var 2) (re_mod (re_ix (re_var 0) re_int) (re_callB call_lenX s_len rfl mb_len PySem.boot_len (ra_cons (re_var 2) ra_nil)))))))⟩
set_option maxHeartbeats 4000000 in
theorem ok__law_held {k : Nat} {f : Addr} {fd : FuncData} {F : Fns} (hF : L2.Fun K "_law_held" "_law_held" s__law_held f fd) (hC : ∀ n, Cal P w K mg base C k (nmS n) (nmA n) (F n)) (mb : Mb K mg) : FnOk P w K mg base CX0 (k + 1) f fd ["_law_row_here", "_law_known", "_law_values"] (spF C K 3 (fnD 5 (b__law_held F))) := by
  refine fn_ok hF sc__law_held rfl fun cdv A outer s H E hr => ?_
  have nd := sc__law_held.nd
  have hu := hr.units
  have hu1 := hu_of hr
  have c__law_known_after : Cal P w K mg base C k "_law_known_after" 3 (F ._law_known_after) := hC ._law_known_after
  have c__law_meant : Cal P w K mg base C k "_law_meant" 2 (F ._law_meant) := hC ._law_meant
  have c__law_turned : Cal P w K mg base C k "_law_turned" 2 (F ._law_turned) := hC ._law_turned
  exact ⟨_, (rss_cons (rs_set 3 nd (re_call c__law_known_after hr rfl (ra_cons (re_var 1) (ra_cons (re_L (rl_lst (ra_cons (re_call c__law_turned hr rfl (ra_cons (re_var 0) (ra_cons (re_var 1) ra_nil))) ra_nil))) (ra_cons (re_L (rl_lst (ra_cons (re_ix (re_var 2) re_int) ra_nil))) ra_nil)))))
    (rss_cons (rs_set 4 nd (re_call c__law_meant hr rfl (ra_cons (re_ix (re_ix (re_var 0) re_int) re_int) (ra_cons (re_var 3) ra_nil))))
    (rss_cons (rs_if (rt_c (rc_eq (L := 64) hu (re_ix (re_var 0) re_int) re_str)) (rss_one (rs_ret (re_tup (ra_cons re_non (ra_cons (re_call c__law_known_after hr rfl (ra_cons (re_var 1) (ra_cons (re_slice (re_ix (re_var 0) re_int) rp_none (rp_some re_int)) (ra_cons (re_L (rl_lst (ra_cons (re_var 4) ra_nil))) ra_nil)))) (ra_cons re_int ra_nil)))))) rss_nil)
    (rss_one (rs_ret (re_tup (ra_cons re_non (ra_cons (re_call c__law_known_after hr rfl (ra_cons (re_var 1) (ra_cons (re_ix (re_var 0) re_int) (ra_cons (re_L (rl_lst (ra_cons (re_var 4) (ra_cons (re_tup (ra_cons re_str ra_nil)) ra_nil)))) ra_nil)))) (ra_cons re_int ra_nil)))))))))⟩
set_option maxHeartbeats 4000000 in
theorem ok__law_behind {k : Nat} {f : Addr} {fd : FuncData} {F : Fns} (hF : L2.Fun K "_law_behind" "_law_behind" s__law_behind f fd) (hC : ∀ n, Cal P w K mg base C k (nmS n) (nmA n) (F n)) (mb : Mb K mg) : FnOk P w K mg base CX0 (k + 1) f fd ["_law_row_here", "_law_known"] (spF C K 2 (fnD 8 (b__law_behind F))) := by
  refine fn_ok hF sc__law_behind rfl fun cdv A outer s H E hr => ?_
  have nd := sc__law_behind.nd
  have hu := hr.units
  have hu1 := hu_of hr
  have c__law_bound : Cal P w K mg base C k "_law_bound" 4 (F ._law_bound) := hC ._law_bound
  have c__law_called : Cal P w K mg base C k "_law_called" 3 (F ._law_called) := hC ._law_called
  have c__law_held : Cal P w K mg base C k "_law_held" 3 (F ._law_held) := hC ._law_held
  have c__law_known_after : Cal P w K mg base C k "_law_known_after" 3 (F ._law_known_after) := hC ._law_known_after
  have c__law_meant : Cal P w K mg base C k "_law_meant" 2 (F ._law_meant) := hC ._law_meant
  exact ⟨_, (rss_cons (rs_asg (re_var 0) (rg_tup rfl (rgs_cons (rg_name (vs := [2, 3, 4, 5]) 2 (by decide) nd) (rgs_cons (rg_name (vs := [2, 3, 4, 5]) 3 (by decide) nd) (rgs_cons (rg_name (vs := [2, 3, 4, 5]) 4 (by decide) nd) (rgs_cons (rg_name (vs := [2, 3, 4, 5]) 5 (by decide) nd) rgs_nil))))))
    (rss_cons (rs_lc 6 rfl nd (own := [("_law_term_here", 7)]) (ri_list (re_var 5)) (RB.mk (own := [("_law_term_here", 7)]) (blkOk_by (own := [("_law_term_here", 7)]) (N := ["_law_row_here", "_law_known", "_law_word", "_law_mark", "_law_names", "_law_some", "_law_values", "_law_term_here"]) (sc := defScope s__law_behind) (by decide +kernel)) (fun _ _ _ _ _ => ⟨_, (rg_name (vs := [7]) 7 (by decide) nd)⟩) (fun _ _ _ _ _ => ⟨_, rts_nil⟩) (fun _ _ _ _ _ => ⟨_, (re_call c__law_meant hr rfl (ra_cons (re_var 7) (ra_cons (re_var 1) ra_nil)))⟩)) (hsw := sw_true rfl rfl rfl (by decide +kernel)))
    (rss_cons (rs_if (rt_c (rc_eq (L := 64) hu (re_var 2) re_str)) (rss_cons (rs_if (rt_w (rw_or (rt_c (rc_ne (L := 64) hu (re_ix (re_ix (re_var 6) re_int) re_int) re_str)) (rw_or1 (rt_c (rc_ne (L := 64) hu (re_ix (re_ix (re_var 6) re_int) re_int) re_str))))) (rss_one (rs_ret (re_tup (ra_cons (re_tup (ra_cons re_str (ra_cons (re_var 3) ra_nil))) (ra_cons (re_var 1) (ra_cons re_int ra_nil)))))) rss_nil)
    (rss_one (rs_ret (re_call c__law_bound hr rfl (ra_cons (re_var 0) (ra_cons (re_var 1) (ra_cons (re_tup (ra_cons re_str (ra_cons (re_add (re_ix (re_ix (re_var 6) re_int) re_int) (re_ix (re_ix (re_var 6) re_int) re_int)) ra_nil))) (ra_cons re_int ra_nil)))))))) rss_nil)
    (rss_cons (rs_if (rt_c (rc_eq (L := 64) hu (re_var 2) re_str)) (rss_cons (rs_if (rt_c (rc_ne (L := 64) hu (re_ix (re_ix (re_var 6) re_int) re_int) re_str)) (rss_one (rs_ret (re_tup (ra_cons (re_tup (ra_cons re_str (ra_cons (re_var 3) ra_nil))) (ra_cons (re_var 1) (ra_cons re_int ra_nil)))))) rss_nil)
    (rss_one (rs_ret (re_tup (ra_cons re_non (ra_cons (re_var 1) (ra_cons re_int ra_nil))))))) rss_nil)
    (rss_cons (rs_if (rt_c (rc_eq (L := 64) hu (re_var 2) re_str)) (rss_one (rs_ret (re_call c__law_called hr rfl (ra_cons (re_var 0) (ra_cons (re_var 1) (ra_cons (re_var 6) ra_nil)))))) rss_nil)
    (rss_cons (rs_if (rt_c (rc_in (re_var 2) (re_tup (ra_cons re_str (ra_cons re_str ra_nil))))) (rss_one (rs_ret (re_call c__law_held hr rfl (ra_cons (re_var 0) (ra_cons (re_var 1) (ra_cons (re_var 6) ra_nil)))))) rss_nil)
    (rss_cons (rs_if (rt_c (rc_eq (L := 64) hu (re_var 2) re_str)) (rss_cons (rs_if (rt_c (rc_eq (L := 64) hu (re_mod (re_var 3) re_int) re_int)) (rss_one (rs_ret (re_tup (ra_cons (re_tup (ra_cons re_str (ra_cons (re_var 3) ra_nil))) (ra_cons (re_var 1) (ra_cons re_int ra_nil)))))) rss_nil)
    (rss_one (rs_ret (re_tup (ra_cons re_non (ra_cons (re_var 1) (ra_cons re_int ra_nil))))))) rss_nil)
    (rss_cons (rs_if (rt_c (rc_eq (L := 64) hu (re_var 2) re_str)) (rss_one (rs_ret (re_call c__law_bound hr rfl (ra_cons (re_var 0) (ra_cons (re_var 1) (ra_cons (re_ix (re_var 6) re_int) (ra_cons re_int ra_nil))))))) rss_nil)
    (rss_cons (rs_if (rt_c (rc_eq (L := 64) hu (re_var 2) re_str)) (rss_one (rs_ret (re_tup (ra_cons re_non (ra_cons (re_call c__law_known_after hr rfl (ra_cons (re_var 1) (ra_cons (re_slice (re_var 4) rp_none (rp_some re_int)) (ra_cons (re_var 6) ra_nil)))) (ra_cons re_int ra_nil)))))) rss_nil)
    (rss_cons (rs_if (rt_c (rc_eq (L := 64) hu (re_var 2) re_str)) (rss_one (rs_ret (re_call c__law_bound hr rfl (ra_cons (re_var 0) (ra_cons (re_var 1) (ra_cons (re_ix (re_var 6) re_int) (ra_cons re_int ra_nil))))))) rss_nil)
    (rss_one (rs_ret (re_tup (ra_cons re_non (ra_cons (re_call c__law_known_after hr rfl (ra_cons (re_var 1) (ra_cons (re_slice (re_var 4) rp_none (rp_some re_int)) (ra_cons (re_var 6) ra_nil)))) (ra_cons re_int ra_nil))))))))))))))))⟩
set_option maxHeartbeats 4000000 in
theorem ok__law_held_term {k : Nat} {f : Addr} {fd : FuncData} {F : Fns} (hF : L2.Fun K "_law_held_term" "_law_held_term" s__law_held_term f fd) (hC : ∀ n, Cal P w K mg base C k (nmS n) (nmA n) (F n)) (mb : Mb K mg) : FnOk P w K mg base CX0 (k + 1) f fd ["_law_row_here", "_law_inner", "_law_known"] (spF C K 3 (fnD 9 (b__law_held_term F))) := by
  refine fn_ok hF sc__law_held_term rfl fun cdv A outer s H E hr => ?_
  have nd := sc__law_held_term.nd
  have hu := hr.units
  have hu1 := hu_of hr
  have c__law_turned : Cal P w K mg base C k "_law_turned" 2 (F ._law_turned) := hC ._law_turned
  exact ⟨_, (rss_cons (rs_asg (re_var 0) (rg_tup rfl (rgs_cons (rg_name (vs := [3, 4, 5, 6]) 3 (by decide) nd) (rgs_cons (rg_name (vs := [3, 4, 5, 6]) 4 (by decide) nd) (rgs_cons (rg_name (vs := [3, 4, 5, 6]) 5 (by decide) nd) (rgs_cons (rg_name (vs := [3, 4, 5, 6]) 6 (by decide) nd) rgs_nil))))))
    (rss_cons (rs_set 7 nd (re_tup (ra_cons re_str (ra_cons (re_ix (re_var 5) re_int) (ra_cons (re_ix (re_var 5) re_int) (ra_cons (re_var 1) ra_nil))))))
    (rss_cons (rs_set 8 nd (re_tup (ra_cons re_str (ra_cons (re_tup (ra_cons re_str (ra_cons re_str ra_nil))) (ra_cons (re_ix (re_var 6) re_int) (ra_cons (re_tup (ra_cons re_str ra_nil)) ra_nil))))))
    (rss_cons (rs_if (rt_c (rc_eq (L := 64) hu (re_var 3) re_str)) (rss_cons (rs_set 7 nd (re_tup (ra_cons re_str (ra_cons (re_ix (re_var 5) re_int) (ra_cons (re_var 1) ra_nil)))))
    (rss_one (rs_set 8 nd (re_tup (ra_cons re_str (ra_cons (re_tup (ra_cons re_str (ra_cons re_str ra_nil))) (ra_cons (re_ix (re_var 6) re_int) ra_nil))))))) rss_nil)
    (rss_one (rs_ret (re_tup (ra_cons re_str (ra_cons re_str (ra_cons (re_var 7) (ra_cons (re_tup (ra_cons re_str (ra_cons (re_call c__law_turned hr rfl (ra_cons (re_var 0) (ra_cons (re_var 2) ra_nil))) (ra_cons (re_ix (re_var 6) re_int) (ra_cons (re_var 8) ra_nil))))) ra_nil)))))))))))⟩
set_option maxHeartbeats 4000000 in
theorem ok__law_handed {k : Nat} {f : Addr} {fd : FuncData} {F : Fns} (hF : L2.Fun K "_law_handed" "_law_handed" s__law_handed f fd) (hC : ∀ n, Cal P w K mg base C k (nmS n) (nmA n) (F n)) (mb : Mb K mg) : FnOk P w K mg base CX0 (k + 1) f fd ["_law_row_here", "_law_inner"] (spF C K 2 (fnD 7 (b__law_handed F))) := by
  refine fn_ok hF sc__law_handed rfl fun cdv A outer s H E hr => ?_
  have nd := sc__law_handed.nd
  have hu := hr.units
  have hu1 := hu_of hr
  exact ⟨_, (rss_cons (rs_asg (re_slice (re_var 0) (rp_some re_int) (rp_some re_int)) (rg_tup rfl (rgs_cons (rg_name (vs := [2, 3]) 2 (by decide) nd) (rgs_cons (rg_name (vs := [2, 3]) 3 (by decide) nd) rgs_nil))))
    (rss_cons (rs_set 4 nd (re_tup (ra_cons re_str (ra_cons (re_tup (ra_cons re_str ra_nil)) (ra_cons (re_tup (ra_cons re_str (ra_cons re_int ra_nil))) (ra_cons (re_tup (ra_cons re_str ra_nil)) ra_nil))))))
    (rss_cons (rs_if (rt_c (rc_eq (L := 64) hu (re_mod (re_var 2) re_int) re_int)) (rss_cons (rs_set 5 nd (re_tup (ra_cons re_str (ra_cons (re_tup (ra_cons re_str (ra_cons (re_ix (re_var 3) re_int) ra_nil))) (ra_cons (re_tup (ra_cons re_str (ra_cons (re_ix (re_var 3) re_int) ra_nil))) ra_nil)))))
    (rss_one (rs_ret (re_L (rl_lst (ra_cons (re_tup (ra_cons re_str (ra_cons (re_ix (re_var 3) re_int) (ra_cons (re_ix (re_var 3) re_int) (ra_cons (re_var 5) ra_nil))))) (ra_cons (re_tup (ra_cons re_str (ra_cons (re_ix (re_var 3) re_int) (ra_cons (re_var 1) ra_nil)))) ra_nil))))))) rss_nil)
    (rss_cons (rs_if (rt_c (rc_eq (L := 64) hu (re_mod (re_var 2) re_int) re_int)) (rss_cons (rs_set 6 nd (re_tup (ra_cons re_str (ra_cons (re_mod (re_add (re_var 2) re_int) re_int) (ra_cons (re_tup (ra_cons re_str (ra_cons (re_ix (re_var 3) re_int) ra_nil))) (ra_cons (re_var 1) ra_nil))))))
    (rss_one (rs_ret (re_L (rl_lst (ra_cons (re_tup (ra_cons re_str (ra_cons (re_ix (re_var 3) re_int) (ra_cons (re_ix (re_var 3) re_int) (ra_cons (re_var 6) ra_nil))))) (ra_cons (re_tup (ra_cons re_str (ra_cons re_str (ra_cons (re_var 4) ra_nil)))) ra_nil))))))) rss_nil)
    (rss_one (rs_ret (re_L (rl_lst (ra_cons (re_tup (ra_cons re_str (ra_cons (re_ix (re_var 3) re_int) (ra_cons (re_ix (re_var 3) re_int) (ra_cons (re_var 1) ra_nil))))) (ra_cons (re_tup (ra_cons re_str ra_nil)) ra_nil))))))))))⟩
set_option maxHeartbeats 4000000 in
theorem ok__law_picked {k : Nat} {f : Addr} {fd : FuncData} {F : Fns} (hF : L2.Fun K "_law_picked" "_law_picked" s__law_picked f fd) (hC : ∀ n, Cal P w K mg base C k (nmS n) (nmA n) (F n)) (mb : Mb K mg) : FnOk P w K mg base CX0 (k + 1) f fd ["_law_row_here", "_law_inner", "_law_known"] (spF C K 3 (fnD 4 (b__law_picked F))) := by
  refine fn_ok hF sc__law_picked rfl fun cdv A outer s H E hr => ?_
  have nd := sc__law_picked.nd
  have hu := hr.units
  have hu1 := hu_of hr
  have c__law_meant : Cal P w K mg base C k "_law_meant" 2 (F ._law_meant) := hC ._law_meant
  exact ⟨_, (rss_cons (rs_set 3 nd (re_tup (ra_cons re_str (ra_cons (re_tup (ra_cons re_str ra_nil)) (ra_cons (re_tup (ra_cons re_str (ra_cons re_int ra_nil))) (ra_cons (re_tup (ra_cons re_str ra_nil)) ra_nil))))))
    (rss_cons (rs_if (rt_c (rc_eq (L := 64) hu (re_call c__law_meant hr rfl (ra_cons (re_ix (re_ix (re_var 0) re_int) re_int) (ra_cons (re_var 2) ra_nil))) (re_tup (ra_cons re_str (ra_cons re_int ra_nil))))) (rss_one (rs_ret (re_tup (ra_cons re_str (ra_cons (re_ix (re_var 0) re_int) (ra_cons (re_ix (re_ix (re_var 0) re_int) re_int) (ra_cons (re_var 1) (ra_cons (re_var 3) ra_nil)))))))) rss_nil)
    (rss_one (rs_ret (re_tup (ra_cons re_str (ra_cons (re_ix (re_var 0) re_int) (ra_cons (re_ix (re_ix (re_var 0) re_int) re_int) (ra_cons (re_var 3) (ra_cons (re_var 1) ra_nil))))))))))⟩
set_option maxHeartbeats 4000000 in
theorem ok__law_term {k : Nat} {f : Addr} {fd : FuncData} {F : Fns} (hF : L2.Fun K "_law_term" "_law_term" s__law_term f fd) (hC : ∀ n, Cal P w K mg base C k (nmS n) (nmA n) (F n)) (mb : Mb K mg) : FnOk P w K mg base CX0 (k + 1) f fd ["_law_row_here", "_law_inner", "_law_known"] (spF C K 3 (fnD 9 (b__law_term F))) := by
  refine fn_ok hF sc__law_term rfl fun cdv A outer s H E hr => ?_
  have nd := sc__law_term.nd
  have hu := hr.units
  have hu1 := hu_of hr
  have c__law_handed : Cal P w K mg base C k "_law_handed" 2 (F ._law_handed) := hC ._law_handed
  have c__law_held_term : Cal P w K mg base C k "_law_held_term" 3 (F ._law_held_term) := hC ._law_held_term
  have c__law_picked : Cal P w K mg base C k "_law_picked" 3 (F ._law_picked) := hC ._law_picked
  exact ⟨_, (rss_cons (rs_asg (re_var 0) (rg_tup rfl (rgs_cons (rg_name (vs := [3, 4, 5, 6]) 3 (by decide) nd) (rgs_cons (rg_name (vs := [3, 4, 5, 6]) 4 (by decide) nd) (rgs_cons (rg_name (vs := [3, 4, 5, 6]) 5 (by decide) nd) (rgs_cons (rg_name (vs := [3, 4, 5, 6]) 6 (by decide) nd) rgs_nil))))))
    (rss_cons (rs_asg (re_call c__law_handed hr rfl (ra_cons (re_var 0) (ra_cons (re_var 1) ra_nil))) (rg_lst rfl (rgs_cons (rg_name (vs := [7, 8]) 7 (by decide) nd) (rgs_cons (rg_name (vs := [7, 8]) 8 (by decide) nd) rgs_nil))))
    (rss_cons (rs_if (rt_c (rc_in (re_var 3) (re_tup (ra_cons re_str (ra_cons re_str ra_nil))))) (rss_one (rs_ret (re_call c__law_held_term hr rfl (ra_cons (re_var 0) (ra_cons (re_var 1) (ra_cons (re_var 2) ra_nil)))))) rss_nil)
    (rss_cons (rs_if (rt_w (rw_or (rt_c (rc_eq (L := 64) hu (re_var 3) re_str)) (rw_or1 (rt_c (rc_eq (L := 64) hu (re_var 3) re_str))))) (rss_one (rs_ret (re_tup (ra_cons (re_var 3) (ra_cons (re_var 4) (ra_cons (re_ix (re_var 6) re_int) (ra_cons (re_ix (re_var 6) re_int) (ra_cons (re_var 7) (ra_cons (re_var 8) ra_nil))))))))) rss_nil)
    (rss_cons (rs_if (rt_c (rc_eq (L := 64) hu (re_var 3) re_str)) (rss_one (rs_ret (re_call c__law_picked hr rfl (ra_cons (re_var 0) (ra_cons (re_var 1) (ra_cons (re_var 2) ra_nil)))))) rss_nil)
    (rss_cons (rs_if (rt_c (rc_eq (L := 64) hu (re_var 3) re_str)) (rss_cons (rs_if (rt_c (rc_eq (L := 64) hu (re_mod (re_var 4) re_int) re_int)) (rss_one (rs_ret (re_tup (ra_cons re_str (ra_cons (re_var 4) (ra_cons (re_tup (ra_cons re_str ra_nil)) (ra_cons (re_var 1) ra_nil))))))) rss_nil)
    (rss_one (rs_ret (re_tup (ra_cons re_str (ra_cons (re_var 4) (ra_cons (re_tup (ra_cons re_str (ra_cons re_str (ra_cons (re_var 1) ra_nil)))) (ra_cons (re_var 1) ra_nil)))))))) rss_nil)
    (rss_cons (rs_if (rt_c (rc_eq (L := 64) hu (re_var 3) re_str)) (rss_one (rs_ret (re_tup (ra_cons re_str (ra_cons (re_ix (re_var 6) re_int) (ra_cons (re_var 7) (ra_cons (re_var 8) ra_nil))))))) rss_nil)
    (rss_cons (rs_if (rt_c (rc_eq (L := 64) hu (re_var 3) re_str)) (rss_one (rs_ret (re_tup (ra_cons re_str (ra_cons (re_tup (ra_cons re_str (ra_cons (re_ix (re_var 5) re_int) (ra_cons (re_var 1) ra_nil)))) (ra_cons (re_ix (re_var 6) re_int) ra_nil)))))) rss_nil)
    (rss_cons (rs_if (rt_c (rc_eq (L := 64) hu (re_var 3) re_str)) (rss_one (rs_ret (re_tup (ra_cons re_str (ra_cons (re_var 7) (ra_cons (re_ix (re_var 6) re_int) (ra_cons (re_var 8) ra_nil))))))) rss_nil)
    (rss_one (rs_ret (re_tup (ra_cons re_str (ra_cons (re_ix (re_var 5) re_int) (ra_cons (re_ix (re_var 6) re_int) (ra_cons (re_var 1) ra_nil))))))))))))))))⟩
set_option maxHeartbeats 4000000 in
theorem ok__law_end {k : Nat} {f : Addr} {fd : FuncData} {F : Fns} (hF : L2.Fun K "_law_end" "_law_end" s__law_end f fd) (hC : ∀ n, Cal P w K mg base C k (nmS n) (nmA n) (F n)) (mb : Mb K mg) : FnOk P w K mg base CX0 (k + 1) f fd ["_law_value"] (spF C K 1 (fnD 1 (b__law_end F))) := by
  refine fn_ok hF sc__law_end rfl fun cdv A outer s H E hr => ?_
  have nd := sc__law_end.nd
  have hu := hr.units
  have hu1 := hu_of hr
  exact ⟨_, (rss_cons (rs_if (rt_c (rc_eq (L := 64) hu (re_ix (re_var 0) re_int) re_str)) (rss_one (rs_ret (re_tup (ra_cons re_str (ra_cons (re_ix (re_var 0) re_int) ra_nil))))) rss_nil)
    (rss_cons (rs_if (rt_c (rc_eq (L := 64) hu (re_ix (re_var 0) re_int) re_str)) (rss_one (rs_ret (re_tup (ra_cons (re_ix (re_var 0) re_int) (ra_cons (re_ix (re_var 0) re_int) ra_nil))))) rss_nil)
    (rss_one (rs_ret re_non))))⟩
set_option maxHeartbeats 4000000 in
theorem ok__law_usable {k : Nat} {f : Addr} {fd : FuncData} {F : Fns} (hF : L2.Fun K "_law_usable" "_law_usable" s__law_usable f fd) (hC : ∀ n, Cal P w K mg base C k (nmS n) (nmA n) (F n)) (mb : Mb K mg) : FnOk P w K mg base CX0 (k + 1) f fd ["_law_known"] (spF C K 1 (fnD 2 (b__law_usable F))) := by
  refine fn_ok hF sc__law_usable rfl fun cdv A outer s H E hr => ?_
  have nd := sc__law_usable.nd
  have hu := hr.units
  have hu1 := hu_of hr
  have mb_dict := mb.dict
  exact ⟨_, (rss_one (rs_ret (re_Di (rd_pairs rfl rfl mb_dict (ra_cons (re_L (rl_usb 0 1 "end" (by decide) rfl nd (re_var 0) (blkOk_by (own := [("_law_name", 1)]) (N := ["_law_known", "_law_name"]) (sc := defScope s__law_usable) (by decide +kernel)) (fun _ _ _ _ _ => ⟨_, (rg_name (vs := [1]) 1 (by decide) nd)⟩) (fun _ _ _ _ _ => ⟨_, (rts_one (rt_c (rc_ne (L := 64) hu (re_ix (re_dget hu1 (re_var 0) (re_var 1)) re_int) re_str)))⟩) (fun _ _ _ _ _ => ⟨_, (re_tup (ra_cons (re_var 1) (ra_cons (re_dget hu1 (re_var 0) (re_var 1)) ra_nil)))⟩))) ra_nil)))))⟩
set_option maxHeartbeats 4000000 in
theorem ok_law {k : Nat} {f : Addr} {fd : FuncData} {F : Fns} (hF : L2.Fun K "law" "law" s_law f fd) (hC : ∀ n, Cal P w K mg base C k (nmS n) (nmA n) (F n)) (mb : Mb K mg) : FnOk P w K mg base CX0 (k + 1) f fd ["_law_script"] (spF C K 1 (fnD 17 (b_law F))) := by
  refine fn_ok hF sc_law rfl fun cdv A outer s H E hr => ?_
  have nd := sc_law.nd
  have hu := hr.units
  have hu1 := hu_of hr
  have mb_enumerate := mb.enumerate
  have mb_isinstance := mb.isinstance
  have mb_len := mb.len
  have mb_range := mb.range
  have mb_tuple := mb.tuple
  have c__law_behind : Cal P w K mg base C k "_law_behind" 2 (F ._law_behind) := hC ._law_behind
  have c__law_cell_at : Cal P w K mg base C k "_law_cell_at" 2 (F ._law_cell_at) := hC ._law_cell_at
  have c__law_end : Cal P w K mg base C k "_law_end" 1 (F ._law_end) := hC ._law_end
  have c__law_meant : Cal P w K mg base C k "_law_meant" 2 (F ._law_meant) := hC ._law_meant
  have c__law_mixed : Cal P w K mg base C k "_law_mixed" 1 (F ._law_mixed) := hC ._law_mixed
  have c__law_row : Cal P w K mg base C k "_law_row" 2 (F ._law_row) := hC ._law_row
  have c__law_simple_by : Cal P w K mg base C k "_law_simple_by" 2 (F ._law_simple_by) := hC ._law_simple_by
  have c__law_term : Cal P w K mg base C k "_law_term" 3 (F ._law_term) := hC ._law_term
  have c__law_usable : Cal P w K mg base C k "_law_usable" 1 (F ._law_usable) := hC ._law_usable
  have c_run_plain : Cal P w K mg base C k "run_plain" 2 (F .run_plain) := hC .run_plain
  exact ⟨_, (rss_cons (rs_set 1 nd (re_Di rd_new))
    (rss_frzLL3 2 3 (by decide) (rs_set 2 nd (re_LM (rl_lst ra_nil))) (rs_set 3 nd (re_LM (rl_lst ra_nil))) (rs_for PassesOwn.never rfl (ri_enumL rfl mb_enumerate (re_slice (re_var 0) (rp_some re_int) (rp_some re_int))) (rg_tup rfl (rgs_cons (rg_name (vs := [4, 5]) 4 (by decide) nd) (rgs_cons (rg_name (vs := [4, 5]) 5 (by decide) nd) rgs_nil))) (rss_cons (rs_set 12 nd (re_call c__law_row hr rfl (ra_cons (re_call c__law_usable hr rfl (ra_cons (re_var 1) ra_nil)) (ra_cons (re_call c__law_mixed hr rfl (ra_cons (re_add (re_var 5) (re_mul re_int (re_var 4))) ra_nil)) ra_nil))))
    (rss_cons (rs_expr (re_append (fun h1 h2 => pe_bm PySem.F.plainAttrs_list PySem.F.slot_list_append PySem.F.type_list_append mt_append h1 h2) (re_var 2) (re_var 12)))
    (rss_cons (rs_expr (re_append (fun h1 h2 => pe_bm PySem.F.plainAttrs_list PySem.F.slot_list_append PySem.F.type_list_append mt_append h1 h2) (re_var 3) (re_var 1)))
    (rss_cons (rs_asg (re_call c__law_behind hr rfl (ra_cons (re_var 12) (ra_cons (re_var 1) ra_nil))) (rg_tup rfl (rgs_cons (rg_name (vs := [14, 1, 15]) 14 (by decide) nd) (rgs_cons (rg_name (vs := [14, 1, 15]) 1 (by decide) nd) (rgs_cons (rg_name (vs := [14, 1, 15]) 15 (by decide) nd) rgs_nil)))))
    (rss_one (rs_if (rt_c (rc_isnot (re_var 14) re_non)) (rss_cons (rs_set 1 nd (re_Di rd_new))
    (rss_one rs_break)) rss_nil)))))))
    (rss_cons (rs_set 6 nd (re_call c__law_simple_by hr rfl (ra_cons (re_call c__law_usable hr rfl (ra_cons (re_var 1) ra_nil)) (ra_cons (re_call c__law_mixed hr rfl (ra_cons (re_call c__law_cell_at hr rfl (ra_cons (re_var 0) (ra_cons re_int ra_nil))) ra_nil)) ra_nil))))
    (rss_cons (rs_lc 7 rfl nd (own := [("_law_row_here", 12)]) (ri_list (re_var 2)) (RB.mk (own := [("_law_row_here", 12)]) (blkOk_by (own := [("_law_row_here", 12)]) (N := ["_law_script", "_law_known", "_law_rows", "_law_stood", "_law_at", "_law_cell", "_law_last", "_law_calls", "_law_term_here", "_law_fuel", "_law_due", "_law_count", "_law_row_here", "_law_found", "_law_told", "_law_step", "_law_after"]) (sc := defScope s_law) (by decide +kernel)) (fun _ _ _ _ _ => ⟨_, (rg_name (vs := [12]) 12 (by decide) nd)⟩) (fun _ _ _ _ _ => ⟨_, (rts_one (rt_c (rc_eq (L := 64) hu (re_ix (re_var 12) re_int) re_str)))⟩) (fun _ _ _ _ _ => ⟨_, (re_ix (re_ix (re_var 12) re_int) re_int)⟩)) (hsw := sw_true rfl rfl rfl (by decide +kernel)))
    (rss_cons (rs_if (rt_w (rw_and (rt_c (rc_ne (L := 64) hu (re_var 7) (re_L (rl_lst ra_nil)))) (rw_and (rt_c (rc_din hu1 (re_ix (re_var 7) (re_neg re_int)) (re_call c__law_usable hr rfl (ra_cons (re_var 1) ra_nil)))) (rw_and1 (rt_c (rc_gt (re_mod (re_call c__law_cell_at hr rfl (ra_cons (re_var 0) (ra_cons re_int ra_nil))) re_int) re_int)))))) (rss_one (rs_set 6 nd (re_tup (ra_cons re_str (ra_cons (re_ix (re_var 7) (re_neg re_int)) ra_nil))))) rss_nil)
    (rss_cons (rs_set 8 nd (re_tup (ra_cons re_str (ra_cons (re_tup (ra_cons re_str ra_nil)) (ra_cons (re_var 6) (ra_cons (re_tup (ra_cons re_str ra_nil)) ra_nil))))))
    (rss_cons (rs_for PassesOwn.never rfl (ri_range1 rfl mb_range (ra_cons (re_callB call_lenX s_len rfl mb_len PySem.boot_len (ra_cons (re_var 2) ra_nil)) ra_nil)) (rg_name (vs := [4]) 4 (by decide) nd) (rss_one (rs_set 8 nd (re_call c__law_term hr rfl (ra_cons (re_ix (re_var 2) (re_sub (re_neg re_int) (re_var 4))) (ra_cons (re_var 8) (ra_cons (re_ix (re_var 3) (re_sub (re_neg re_int) (re_var 4))) ra_nil)))))))
    (rss_cons (rs_set 9 nd (re_mod (re_call c__law_cell_at hr rfl (ra_cons (re_var 0) (ra_cons re_int ra_nil))) re_int))
    (rss_cons (rs_set 1 nd (re_Di rd_new))
    (rss_cons (rs_set 10 nd re_non)
    (rss_cons (rs_set 11 nd re_int)
    (rss_cons (rs_for PassesOwn.never rfl (ri_list (re_var 2)) (rg_name (vs := [12]) 12 (by decide) nd) (rss_cons (rs_asg (re_call c__law_behind hr rfl (ra_cons (re_var 12) (ra_cons (re_var 1) ra_nil))) (rg_tup rfl (rgs_cons (rg_name (vs := [14, 16, 15]) 14 (by decide) nd) (rgs_cons (rg_name (vs := [14, 16, 15]) 16 (by decide) nd) (rgs_cons (rg_name (vs := [14, 16, 15]) 15 (by decide) nd) rgs_nil)))))
    (rss_cons (rs_if (rt_w (rw_and (rt_c (rc_gt (re_var 15) re_int)) (rw_and1 (rt_c (rc_gt (re_add (re_var 11) (re_var 15)) (re_var 9)))))) (rss_one (rs_set 14 nd (re_tup (ra_cons re_str ra_nil)))) rss_nil)
    (rss_cons (rs_if (rt_w (rw_and (rt_c (rc_isnot (re_var 14) re_non)) (rw_and1 (rt_c (rc_is (re_var 10) re_non))))) (rss_one (rs_set 10 nd (re_var 14))) rss_nil)
    (rss_cons (rs_set 1 nd (re_var 16))
    (rss_one (rs_set 11 nd (re_add (re_var 11) (re_var 15)))))))))
    (rss_cons (rs_if (rt_c (rc_is (re_var 10) re_non)) (rss_one (rs_set 10 nd (re_call c__law_end hr rfl (ra_cons (re_call c__law_meant hr rfl (ra_cons (re_var 6) (ra_cons (re_var 1) ra_nil))) ra_nil)))) rss_nil)
    (rss_cons (rs_set 13 nd (re_call c_run_plain hr rfl (ra_cons (re_var 8) (ra_cons (re_var 9) ra_nil))))
    (rss_one (rs_ret (re_and (re_isi (T := "tuple") (by decide) rfl mb_isinstance rfl mb_tuple (by decide +kernel) (re_var 13)) (re_and (re_c (rc_eq (L := 64) hu (re_var 13) (re_var 10))) (re_one (re_c (rc_eq (L := 64) hu (re_call c_run_plain hr rfl (ra_cons (re_var 8) (ra_cons (re_var 9) ra_nil))) (re_var 10))))))))))))))))))))))⟩
end
def zEv := @ev
theorem at0 {α : Type} {a : α} {l : List α} : atI (a :: l) 0 = some a := atI_nat (j := 0) rfl
theorem at1 {α : Type} {a b : α} {l : List α} : atI (a :: b :: l) 1 = some b := atI_nat (j := 1) rfl
theorem at2 {α : Type} {a b c : α} {l : List α} : atI (a :: b :: c :: l) 2 = some c := atI_nat (j := 2) rfl
theorem at3 {α : Type} {a b c d : α} {l : List α} : atI (a :: b :: c :: d :: l) 3 = some d := atI_nat (j := 3) rfl
theorem at4 {α : Type} {a b c d e : α} {l : List α} : atI (a :: b :: c :: d :: e :: l) 4 = some e := atI_nat (j := 4) rfl
theorem drop1 (a : D) (r : List D) : cutD (a :: r) (some 1) none = r := by simp [cutD, HT.sIx]
theorem Fk_s (k : Nat) (n : Nm) : Fk (k + 1) n = bodies (Fk k) n := rfl
theorem lev {k : Nat} (h : 1 ≤ k) : ∃ j, k = j + 1 := ⟨k - 1, by omega⟩
/-! ## the law's drawing of pieces -/
def cell (ns : List Int) (i : Int) : Int := if i < ns.length then (atI ns i).getD 0 else 0
theorem cell_D {k : Nat} (hk : 1 ≤ k) (ns : List Int) (i : Int) (h : 0 ≤ i) (S : List O) : Fk k ._law_cell_at [.scr ns, .int i] S = some (.int (cell ns i), S) := by
  obtain ⟨k, rfl⟩ := lev hk
  rw [Fk_s]
  by_cases hi : i < ns.length
  · obtain ⟨x, h1, _⟩ := atI_in h hi
    simp [bodies, zEv, List.map_cons, List.map_nil, List.length_cons, List.length_nil, List.cons_append, List.nil_append, List.append_nil, List.getElem?_cons_zero, List.getElem?_cons_succ, List.set_cons_zero, List.set_cons_succ, ofString_inj, ofString_beq, hi, atI_map, h1, cell]
  · simp [bodies, zEv, List.map_cons, List.map_nil, List.length_cons, List.length_nil, List.cons_append, List.nil_append, List.append_nil, List.getElem?_cons_zero, List.getElem?_cons_succ, List.set_cons_zero, List.set_cons_succ, ofString_inj, ofString_beq, hi, cell]
def mixed (n : Int) : Int := ((n * 48271 + 7919) % 2147483647 * ((n * 48271 + 7919) % 2147483647) + (n * 48271 + 7919) % 2147483647 / 7) % 2147483647
theorem mixed_b (n : Int) : 0 ≤ mixed n ∧ mixed n < 2147483647 := ⟨Int.emod_nonneg _ (by decide), Int.emod_lt_of_pos _ (by decide)⟩
theorem mixed_D {k : Nat} (hk : 1 ≤ k) (n : Int) (S : List O) : Fk k ._law_mixed [.int n] S = some (.int (mixed n), S) := by
  obtain ⟨k, rfl⟩ := lev hk
  rw [Fk_s]
  have h1 : 0 ≤ (n * 48271 + 7919) % 2147483647 := Int.emod_nonneg _ (by decide)
  have h2 : (n * 48271 + 7919) % 2147483647 < 2147483647 := Int.emod_lt_of_pos _ (by decide)
  have e2 : ∀ S, dMul (.int ((n * 48271 + 7919) % 2147483647)) (.int ((n * 48271 + 7919) % 2147483647)) S = some (.int ((n * 48271 + 7919) % 2147483647 * ((n * 48271 + 7919) % 2147483647))) := fun S => dMul_l (by omega)
  simp [bodies, zEv, List.map_cons, List.map_nil, List.length_cons, List.length_nil, List.cons_append, List.nil_append, List.append_nil, List.getElem?_cons_zero, List.getElem?_cons_succ, List.set_cons_zero, List.set_cons_succ, ofString_inj, ofString_beq, e2, mixed]
/-! ## what is drawn -/
def markOk (a : Int) : Prop := 0 ≤ a ∧ a ≤ 9999
def wf : Pc → List Str → Prop
  | .num n, _ => -1000000000000 < n ∧ n < 1000000000000
  | .name x, sc => x ∈ sc ∧ nmOk x
  | .fn a x b, sc => markOk a ∧ nmOk x ∧ wf b (x :: sc)
  | .call a f g, sc => markOk a ∧ wf f sc ∧ wf g sc
  | .plus a f g, sc => markOk a ∧ wf f sc ∧ wf g sc
  | .pick a c f g, sc => markOk a ∧ wf c sc ∧ wf f sc ∧ wf g sc
  | .rnd b, sc => wf b sc
  | .take a x b, sc => markOk a ∧ nmOk x ∧ wf b (x :: sc)
  | .shut .., _ => False
  | .kept .., _ => False
def kn : Pc → Nat
  | .fn _ _ b => kn b + 1
  | .call _ f g => kn f + kn g + 1
  | .plus _ f g => kn f + kn g + 1
  | .pick _ c f g => kn c + kn f + kn g + 1
  | .rnd b => kn b + 1
  | .take _ _ b => kn b + 1
  | _ => 1
theorem kn_pos : ∀ p : Pc, 1 ≤ kn p := by intro p; cases p <;> simp [kn]
def sD (sc : List Str) : D := .lst (sc.map D.str)
def StS (S : List O) (j : Nat) (s : Int) : List O := S.set j (.lst [.int s])
theorem StS_len (S : List O) (j : Nat) (s : Int) : (StS S j s).length = S.length := List.length_set
theorem StS_ok {S : List O} (h : okS S) (j : Nat) (s : Int) : okS (StS S j s) := okS_set h j s
theorem StS_ix {S : List O} {j : Nat} (h : j < S.length) (s : Int) : dIx (.ref j) (.int 0) (StS S j s) = some (.int s) := by
  unfold dIx StS
  simp [seqL, h, atI, ixN]
theorem StS_put {S : List O} {j : Nat} (h : j < S.length) (s v : Int) : setO (StS S j s) (.ref j) (stF (.int v) 0) = some (StS S j v) := by
  unfold setO StS
  simp [h, stF, ixN]
theorem dNe_nil {sc : List Str} (h : ∀ x ∈ sc, nmOk x) (S : List O) : dNe 64 (sD sc) (.lst []) S = some (.bl (!sc.isEmpty)) := by
  have e : ∀ sc : List Str, (∀ x ∈ sc, nmOk x) → PyData.canLayAll0 (pyL (sc.map D.str)) = true := by
    intro sc
    induction sc with
    | nil => intro _; rfl
    | cons x sc ih =>
      intro h
      simp only [List.map_cons, pyL, py, PyData.canLayAll0, PyData.canLay0, Bool.and_eq_true]
      exact ⟨nm_strOk (h x List.mem_cons_self), ih fun y hy => h y (List.mem_cons_of_mem _ hy)⟩
  unfold dNe dEqv sD
  simp only [pyS, py, PyData.canLay0, e sc h, pyL, PyData.canLayAll0, PyData.depth, PyData.depthAll]
  rw [if_pos ⟨trivial, trivial, by omega⟩]
  cases sc <;> simp [PyData.eqv, PyData.eqvAll, pyL]
theorem sD_cons (x : Str) (sc : List Str) : D.lst (D.str x :: sc.map D.str) = sD (x :: sc) := rfl
theorem sD_ix {sc : List Str} {i : Int} (h0 : 0 ≤ i) (h1 : i < sc.length) : ∃ x, x ∈ sc ∧ ∀ S, dIx (sD sc) (.int i) S = some (.str x) := by
  obtain ⟨x, h2, h3⟩ := atI_in h0 h1
  exact ⟨x, h3, fun S => by show atI (sc.map D.str) i = _; rw [atI_map, h2]; rfl⟩
theorem sD_len (sc : List Str) (S : List O) : bLen [sD sc] S = some (.int sc.length) := by
  show some (D.int ((sc.map D.str).length : Int)) = _
  rw [List.length_map]
theorem sD_add (x : Str) (sc : List Str) (h : sc.length ≤ 1000) (S : List O) : dAdd (.lst [.str x]) (sD sc) S = some (sD (x :: sc)) := by
  unfold sD
  rw [dAdd_l, if_pos (by simp; have := le_size (n := 1 + sc.length) ; rw [sizeLine_eq]; omega)]
  rfl
theorem pcall (a : Int) (f g : Pc) : D.tup [.str "call", .int a, f.d, g.d] = (Pc.call a f g).d := by simp [Pc.d]
theorem pname (x : Str) : D.tup [.str "name", .str x] = (Pc.name x).d := by simp [Pc.d]
theorem pnum (n : Int) : D.tup [.str "num", .int n] = (Pc.num n).d := by simp [Pc.d]
theorem pplus (a : Int) (f g : Pc) : D.tup [.str "plus", .int a, f.d, g.d] = (Pc.plus a f g).d := by simp [Pc.d]
theorem pfn (a : Int) (x : Str) (g : Pc) : D.tup [.str "fun", .int a, .str x, g.d] = (Pc.fn a x g).d := by simp [Pc.d]
theorem ptake (a : Int) (x : Str) (g : Pc) : D.tup [.str "take", .int a, .str x, g.d] = (Pc.take a x g).d := by simp [Pc.d]
theorem prnd (g : Pc) : D.tup [.str "round", g.d] = (Pc.rnd g).d := by simp [Pc.d]
theorem ppick (a : Int) (c f g : Pc) : D.tup [.str "pick", .int a, c.d, f.d, g.d] = (Pc.pick a c f g).d := by simp [Pc.d]
theorem dIx_new (S : List O) (xs : List D) (i : Int) : dIx (.ref S.length) (.int i) (S ++ [.lst xs]) = atI xs i := by
  unfold dIx
  simp [seqL]
theorem dIx_newS (S : List O) (j : Nat) (s : Int) (xs : List D) (i : Int) : dIx (.ref S.length) (.int i) (StS S j s ++ [.lst xs]) = atI xs i := by
  have := dIx_new (StS S j s) xs i
  rw [StS_len] at this
  exact this
theorem setO_newS (S : List O) (j : Nat) (s : Int) (x : D) (xs : List D) (d : D) : setO (StS S j s ++ [.lst (x :: xs)]) (.ref S.length) (stF d 0) = some (StS S j s ++ [.lst (d :: xs)]) := by
  have e : S.length = (StS S j s).length := (StS_len S j s).symm
  unfold setO
  rw [e]
  simp [stF, ixN]
theorem gc_newS {S : List O} {d : D} {o : O} (h : okS S) (j : Nat) (s : Int) (hd : okD S.length d = true) (hr : ∀ j, d ≠ .ref j) : gcF S.length (d, StS S j s ++ [o]) = some (d, StS S j s) := by
  have := gc_new (S := StS S j s) (d := d) (o := o) (StS_ok h j s) (by rw [StS_len]; exact hd) hr
  rw [StS_len] at this
  exact this
theorem pc_noref (p : Pc) : ∀ j, p.d ≠ .ref j := by intro j; cases p <;> simp [Pc.d]
theorem is_whole_D {k : Nat} (hk : 1 ≤ k) (i : Int) (S : List O) : Fk k .is_whole [.int i] S = some (.bl true, S) := by
  obtain ⟨k, rfl⟩ := lev hk
  rw [Fk_s]
  simp [bodies, zEv, List.map_cons, List.map_nil, List.length_cons, List.length_nil, List.cons_append, List.nil_append, List.append_nil, List.getElem?_cons_zero, List.getElem?_cons_succ, List.set_cons_zero, List.set_cons_succ, ofString_inj, ofString_beq, isD, tyD]
theorem sWhile_u {c : T} {b : B} {δ : Sl} {S : List O} : sWhile c b δ S = whD c b big δ S := id rfl
theorem okD_tm (n : Nat) : ∀ t : Tm, okD n t.d = true
  | .num _ => by simp [Tm.d, okD, okDs]
  | .name _ => by simp [Tm.d, okD, okDs]
  | .code _ _ _ _ _ t => by simp [Tm.d, okD, okDs, okD_tm n t]
  | .thn _ _ t => by simp [Tm.d, okD, okDs, okD_tm n t]
  | .last _ t => by simp [Tm.d, okD, okDs, okD_tm n t]
  | .halt => by simp [Tm.d, okD, okDs]
  | .fin => by simp [Tm.d, okD, okDs]
  | .pass k p g => by simp [Tm.d, okD, okDs, okD_tm n k, okD_tm n p, okD_tm n g]
  | .leave k p => by simp [Tm.d, okD, okDs, okD_tm n k, okD_tm n p]
  | .shut k p g => by simp [Tm.d, okD, okDs, okD_tm n k, okD_tm n p, okD_tm n g]
  | .call _ p q k g => by simp [Tm.d, okD, okDs, okD_tm n k, okD_tm n p, okD_tm n q, okD_tm n g]
  | .plus _ p q k g => by simp [Tm.d, okD, okDs, okD_tm n k, okD_tm n p, okD_tm n q, okD_tm n g]
  | .pick _ p t u => by simp [Tm.d, okD, okDs, okD_tm n p, okD_tm n t, okD_tm n u]
  | .ask _ p t => by simp [Tm.d, okD, okDs, okD_tm n p, okD_tm n t]
  | .lt _ p t => by simp [Tm.d, okD, okDs, okD_tm n p, okD_tm n t]
/-! ## run_plain, by data -/
mutual
theorem okD_cl (n : Nat) : ∀ c : Cl, okD n c.d = true
  | .num _ => by simp [Cl.d, okD, okDs]
  | .halt => by simp [Cl.d, okD, okDs]
  | .fin => by simp [Cl.d, okD, okDs]
  | .code _ _ _ _ _ t e => by simp [Cl.d, okD, okDs, okD_tm n t, okK_ce n e]
  | .thn _ _ t e => by simp [Cl.d, okD, okDs, okD_tm n t, okK_ce n e]
  | .last _ t e => by simp [Cl.d, okD, okDs, okD_tm n t, okK_ce n e]
theorem okK_ce (n : Nat) : ∀ e : Ce, okKs n (Ce.ks e) = true
  | .nil => by simp [Ce.ks, okKs]
  | .cons _ v e => by simp [Ce.ks, okKs, okD_cl n v, okK_ce n e]
end
theorem gc_dic {S : List O} {ks : List (Key × D)} (h : okS S) (hd : okKs S.length ks = true) : gcF S.length (.ref S.length, S ++ [.dic ks]) = some (.dic ks, S) := by
  unfold gcF
  rw [if_neg (by simp)]
  have e : (S ++ [O.dic ks]).take S.length = S := by simp
  simp only [e]
  rw [if_pos (show S.all (okO S.length) = true from h)]
  simp [hd]
theorem put_new (S : List O) (ks : List (Key × D)) (x : Str) (d : D) (h : ks.length < 16777216) : setO (S ++ [.dic ks]) (.ref S.length) (dpF (.inr x) d) = some (S ++ [.dic (putD ks (.inr x) d)]) := by
  unfold setO
  simp [dpF, h]
theorem with_loop (S : List O) (d0 d1 d2 : D) : ∀ (xs : List Str) (vs : List Cl) (e : Ce) (z4 z5 : Option D), e.nds → (∀ v ∈ vs, v.nd) → e.len + xs.length < 16777216 →
    ∃ z4' z5', forD (gdTup 2 (gsCons (gdName 4) (gsCons (gdName 5) gsNil))) (sDput (eVar 5) (eVar 3) (eVar 4)) (zipLD (xs.map D.str) (vs.map Cl.d)) [some d0, some d1, some d2, some (.ref S.length), z4, z5] (S ++ [.dic (Ce.ks e)]) =
      some (.nx [some d0, some d1, some d2, some (.ref S.length), z4', z5'] (S ++ [.dic (Ce.ks (setEs e xs vs))]))
  | [], vs, e, z4, z5, _, _, _ => ⟨z4, z5, by cases vs <;> simp [zEv, List.map_cons, List.map_nil, List.length_cons, List.length_nil, List.cons_append, List.nil_append, List.append_nil, List.getElem?_cons_zero, List.getElem?_cons_succ, List.set_cons_zero, List.set_cons_succ, ofString_inj, ofString_beq, setEs, zipLD]⟩
  | x :: xs, [], e, z4, z5, _, _, _ => ⟨z4, z5, by simp [zEv, List.map_cons, List.map_nil, List.length_cons, List.length_nil, List.cons_append, List.nil_append, List.append_nil, List.getElem?_cons_zero, List.getElem?_cons_succ, List.set_cons_zero, List.set_cons_succ, ofString_inj, ofString_beq, setEs, zipLD]⟩
  | x :: xs, v :: vs, e, z4, z5, hn, hv, hl => by
    simp only [List.length_cons] at hl
    have hle := setE_len x v e
    obtain ⟨z4', z5', ih⟩ := with_loop S d0 d1 d2 xs vs (setE e x v) (some (.str x)) (some v.d) (set_nds (hv v List.mem_cons_self) hn) (fun w hw => hv w (List.mem_cons_of_mem _ hw)) (by omega)
    have ep := put_new S (Ce.ks e) x v.d (by rw [ks_len]; omega)
    rw [ks_put x v e (nds_nd hn)] at ep
    refine ⟨z4', z5', ?_⟩
    simp only [List.map_cons, zipLD, setEs]
    simp [zEv, List.map_cons, List.map_nil, List.length_cons, List.length_nil, List.cons_append, List.nil_append, List.append_nil, List.getElem?_cons_zero, List.getElem?_cons_succ, List.set_cons_zero, List.set_cons_succ, ofString_inj, ofString_beq, gdTup, gsCons, gsNil, gdName, ep]
    exact ih
theorem with_names_D {k : Nat} (hk : 1 ≤ k) (S : List O) (ok : okS S) (e : Ce) (xs : List Str) (vs : List Cl) (hn : e.nds) (hv : ∀ v ∈ vs, v.nd) (hl : e.len + xs.length < 16777216) :
    Fk k .with_names [.dic (Ce.ks e), .lst (xs.map D.str), .lst (vs.map Cl.d)] S = some (.dic (Ce.ks (setEs e xs vs)), S) := by
  obtain ⟨k, rfl⟩ := lev hk
  rw [Fk_s]
  obtain ⟨z4, z5, lp⟩ := with_loop S (.dic (Ce.ks e)) (.lst (xs.map D.str)) (.lst (vs.map Cl.d)) xs vs e none none hn hv hl
  have g := gc_dic (ks := Ce.ks (setEs e xs vs)) ok (okK_ce _ _)
  simp [bodies, zEv, List.map_cons, List.map_nil, List.length_cons, List.length_nil, List.cons_append, List.nil_append, List.append_nil, List.getElem?_cons_zero, List.getElem?_cons_succ, List.set_cons_zero, List.set_cons_succ, ofString_inj, ofString_beq, lp, g]
theorem meant_D {k : Nat} (hk : 1 ≤ k) (S : List O) {t : Tm} {e : Ce} {v : Cl} (h : mean t e = some v) : Fk k .meant [t.d, .dic (Ce.ks e)] S = some (v.d, S) := by
  obtain ⟨k, rfl⟩ := lev hk
  rw [Fk_s]
  cases t with
  | name w =>
    have h : getE e w = some v := h
    have hv := ks_val w e
    rw [h] at hv
    simp only [Option.map_some] at hv
    simp [bodies, zEv, List.map_cons, List.map_nil, List.length_cons, List.length_nil, List.cons_append, List.nil_append, List.append_nil, List.getElem?_cons_zero, List.getElem?_cons_succ, List.set_cons_zero, List.set_cons_succ, ofString_inj, ofString_beq, Tm.d, at0, at1, hv]
  | num n => cases h; simp [bodies, zEv, List.map_cons, List.map_nil, List.length_cons, List.length_nil, List.cons_append, List.nil_append, List.append_nil, List.getElem?_cons_zero, List.getElem?_cons_succ, List.set_cons_zero, List.set_cons_succ, ofString_inj, ofString_beq, Tm.d, Cl.d, at0]
  | halt => cases h; simp [bodies, zEv, List.map_cons, List.map_nil, List.length_cons, List.length_nil, List.cons_append, List.nil_append, List.append_nil, List.getElem?_cons_zero, List.getElem?_cons_succ, List.set_cons_zero, List.set_cons_succ, ofString_inj, ofString_beq, Tm.d, Cl.d, at0]
  | fin => cases h; simp [bodies, zEv, List.map_cons, List.map_nil, List.length_cons, List.length_nil, List.cons_append, List.nil_append, List.append_nil, List.getElem?_cons_zero, List.getElem?_cons_succ, List.set_cons_zero, List.set_cons_succ, ofString_inj, ofString_beq, Tm.d, Cl.d, at0]
  | code fn a w k g t => cases h; simp [bodies, zEv, List.map_cons, List.map_nil, List.length_cons, List.length_nil, List.cons_append, List.nil_append, List.append_nil, List.getElem?_cons_zero, List.getElem?_cons_succ, List.set_cons_zero, List.set_cons_succ, ofString_inj, ofString_beq, Tm.d, Cl.d, at0, sizeLine_eq]
  | thn w g t => cases h; simp [bodies, zEv, List.map_cons, List.map_nil, List.length_cons, List.length_nil, List.cons_append, List.nil_append, List.append_nil, List.getElem?_cons_zero, List.getElem?_cons_succ, List.set_cons_zero, List.set_cons_succ, ofString_inj, ofString_beq, Tm.d, Cl.d, at0, sizeLine_eq]
  | last w t => cases h; simp [bodies, zEv, List.map_cons, List.map_nil, List.length_cons, List.length_nil, List.cons_append, List.nil_append, List.append_nil, List.getElem?_cons_zero, List.getElem?_cons_succ, List.set_cons_zero, List.set_cons_succ, ofString_inj, ofString_beq, Tm.d, Cl.d, at0, sizeLine_eq]
  | _ => cases h
def Gn.d : Gn → D
  | .told v => .tup [.str "told", v.d]
  | .at_ t e => .tup [.str "move", .tup [t.d, .dic (Ce.ks e)]]
theorem going_D {k : Nat} (hk : 2 ≤ k) (S : List O) (ok : okS S) {kc vc gc : Cl} {z : Gn} (h : goi kc vc gc = some z) (n1 : kc.nd) (n2 : vc.nd) (n3 : gc.nd) (hl : kc.mx < 16000000) : Fk k .going_on [kc.d, vc.d, gc.d] S = some (z.d, S) := by
  obtain ⟨k, rfl⟩ : ∃ j, k = j + 1 := ⟨k - 1, by omega⟩
  rw [Fk_s]
  cases kc with
  | halt => cases h; simp [bodies, zEv, List.map_cons, List.map_nil, List.length_cons, List.length_nil, List.cons_append, List.nil_append, List.append_nil, List.getElem?_cons_zero, List.getElem?_cons_succ, List.set_cons_zero, List.set_cons_succ, ofString_inj, ofString_beq, Cl.d, at0, Gn.d]
  | thn w g t e =>
    cases h
    have hm := len_mx e
    have hl : e.mx < 16000000 := hl
    have ew := with_names_D (k := k) (by omega) S ok e [w, g] [vc, gc] n1 (fun v hv => by
      rcases List.mem_cons.mp hv with q | q
      · rw [q]; exact n2
      · rw [List.mem_singleton] at q; rw [q]; exact n3) (by simp; omega)
    simp only [List.map_cons, List.map_nil, setEs] at ew
    simp [bodies, zEv, List.map_cons, List.map_nil, List.length_cons, List.length_nil, List.cons_append, List.nil_append, List.append_nil, List.getElem?_cons_zero, List.getElem?_cons_succ, List.set_cons_zero, List.set_cons_succ, ofString_inj, ofString_beq, Cl.d, at0, at1, at2, at3, at4, Gn.d, ew]
  | _ => cases h
def PvR (v : Pv) (w : Str) (t : D) : Prop := match v with
  | .move (.told c) => w = "told" ∧ t = c.d
  | .move (.at_ tm e) => w = "move" ∧ t = .tup [tm.d, .dic (Ce.ks e)]
  | .step (.told c) => w = "step told" ∧ t = c.d
  | .step (.at_ tm e) => (w = "step" ∨ w = "step move") ∧ t = .tup [tm.d, .dic (Ce.ks e)]
  | .stuck a => w = "stuck" ∧ t = .int a
theorem ca1 : Str.ofString "step " ++ Str.ofString "told" = Str.ofString "step told" := by decide +kernel
theorem ca2 : Str.ofString "step " ++ Str.ofString "move" = Str.ofString "step move" := by decide +kernel
theorem cl1 : (Str.ofString "step ").length + (Str.ofString "told").length ≤ sizeLine := by rw [sizeLine_eq]; decide +kernel
theorem cl2 : (Str.ofString "step ").length + (Str.ofString "move").length ≤ sizeLine := by rw [sizeLine_eq]; decide +kernel
theorem at5 {α : Type} {a b c d e f : α} {l : List α} : atI (a :: b :: c :: d :: e :: f :: l) 5 = some f := atI_nat (j := 5) rfl
theorem at6 {α : Type} {a b c d e f g : α} {l : List α} : atI (a :: b :: c :: d :: e :: f :: g :: l) 6 = some g := atI_nat (j := 6) rfl
theorem at7 {α : Type} {a b c d e f g h : α} {l : List α} : atI (a :: b :: c :: d :: e :: f :: g :: h :: l) 7 = some h := atI_nat (j := 7) rfl
theorem drop3' (a b c : D) (r : List D) : cutD (a :: b :: c :: r) (some 3) none = r := by simp [cutD, HT.sIx]
theorem cl_num {c : Cl} : (∃ n, c = .num n) ∨ ∃ w r, c.d = .tup (.str w :: r) ∧ w ≠ "num" ∧ ∀ n, c ≠ .num n := by
  cases c with
  | num n => exact .inl ⟨n, rfl⟩
  | halt => exact .inr ⟨_, _, rfl, by decide, fun n z => by cases z⟩
  | fin => exact .inr ⟨_, _, rfl, by decide, fun n z => by cases z⟩
  | code => exact .inr ⟨_, _, rfl, by decide, fun n z => by cases z⟩
  | thn => exact .inr ⟨_, _, rfl, by decide, fun n z => by cases z⟩
  | last => exact .inr ⟨_, _, rfl, by decide, fun n z => by cases z⟩
theorem called_D' {k : Nat} (hk : 2 ≤ k) (S : List O) (ok : okS S) {a : Int} {p q kt gt : Tm} {e : Ce} {v : Pv} (hn : e.nds) (hl : e.mx < 16000000) (h : gon (.call a p q kt gt) e = some v) : ∃ w t, PvR v w t ∧ Fk k .called_with [(Tm.call a p q kt gt).d, .dic (Ce.ks e)] S = some (.tup [.str w, t], S) := by
  obtain ⟨k, rfl⟩ : ∃ j, k = j + 1 := ⟨k - 1, by omega⟩
  simp only [gon, Option.bind_eq_some_iff] at h
  obtain ⟨f, h1, h⟩ := h
  have m1 := meant_D (k := k) (by omega) S h1
  have hf := mean_mx h1
  have nf := mean_nd hn h1
  rw [Fk_s]
  cases f with
  | code fn a' x k' g' t e' =>
    simp only [Option.bind_eq_some_iff, Option.some.injEq] at h
    obtain ⟨q', h2, k2, h3, g2, h4, rfl⟩ := h
    have m2 := meant_D (k := k) (by omega) S h2
    have m3 := meant_D (k := k) (by omega) S h3
    have m4 := meant_D (k := k) (by omega) S h4
    simp only [Cl.mx] at hf
    have hm := len_mx e'
    have ew := with_names_D (k := k) (by omega) S ok e' [x, k', g'] [q', k2, g2] nf (fun v hv => by
      simp only [List.mem_cons, List.not_mem_nil, or_false] at hv
      rcases hv with z | z | z
      · rw [z]; exact mean_nd hn h2
      · rw [z]; exact mean_nd hn h3
      · rw [z]; exact mean_nd hn h4) (by simp; omega)
    simp only [List.map_cons, List.map_nil, setEs] at ew
    refine ⟨"step", _, ⟨.inl rfl, rfl⟩, ?_⟩
    simp only [Cl.d] at m1
    simp [bodies, zEv, List.map_cons, List.map_nil, List.length_cons, List.length_nil, List.cons_append, List.nil_append, List.append_nil, List.getElem?_cons_zero, List.getElem?_cons_succ, List.set_cons_zero, List.set_cons_succ, ofString_inj, ofString_beq, Tm.d, at0, at1, at2, at3, at4, at5, at6, at7, drop3', m1, m2, m3, m4, ew]
  | _ =>
    simp only [Option.some.injEq] at h
    subst h
    refine ⟨"stuck", .int a, ⟨rfl, rfl⟩, ?_⟩
    simp only [Cl.d] at m1
    simp [bodies, zEv, List.map_cons, List.map_nil, List.length_cons, List.length_nil, List.cons_append, List.nil_append, List.append_nil, List.getElem?_cons_zero, List.getElem?_cons_succ, List.set_cons_zero, List.set_cons_succ, ofString_inj, ofString_beq, Tm.d, at0, at1, at2, m1]
theorem summed_D {k : Nat} (hk : 3 ≤ k) (S : List O) (ok : okS S) {a : Int} {p q kt gt : Tm} {e : Ce} {v : Pv} (hn : e.nds) (hl : e.mx < 16000000) (h : gon (.plus a p q kt gt) e = some v) : ∃ w t, PvR v w t ∧ Fk k .summed [(Tm.plus a p q kt gt).d, .dic (Ce.ks e)] S = some (.tup [.str w, t], S) := by
  obtain ⟨k, rfl⟩ : ∃ j, k = j + 1 := ⟨k - 1, by omega⟩
  simp only [gon, Option.bind_eq_some_iff] at h
  obtain ⟨x, h1, y, h2, h⟩ := h
  have m1 := meant_D (k := k) (by omega) S h1
  have m2 := meant_D (k := k) (by omega) S h2
  rw [Fk_s]
  rcases cl_num (c := x) with ⟨m, rfl⟩ | ⟨w, r, ex, hw, hx⟩
  · rcases cl_num (c := y) with ⟨i, rfl⟩ | ⟨w, r, ey, hw, hy⟩
    · simp only [Option.bind_eq_some_iff, Option.map_eq_some_iff] at h
      obtain ⟨k', h3, g', h4, z, h5, rfl⟩ := h
      have m3 := meant_D (k := k) (by omega) S h3
      have m4 := meant_D (k := k) (by omega) S h4
      have hk2 := mean_mx h3
      have eg := going_D (k := k) (by omega) S ok h5 (mean_nd hn h3) trivial (mean_nd hn h4) (by omega)
      simp only [Cl.d] at m1 m2 eg
      cases z with
      | told c =>
        refine ⟨"step told", c.d, ⟨rfl, rfl⟩, ?_⟩
        simp only [Gn.d] at eg
        simp [bodies, zEv, List.map_cons, List.map_nil, List.length_cons, List.length_nil, List.cons_append, List.nil_append, List.append_nil, List.getElem?_cons_zero, List.getElem?_cons_succ, List.set_cons_zero, List.set_cons_succ, ofString_inj, ofString_beq, Tm.d, at0, at1, at2, at3, at4, at5, m1, m2, m3, m4, eg, gdTup, gsCons, gsNil, gdName, cl1, ca1]
      | at_ tm e' =>
        refine ⟨"step move", _, ⟨.inr rfl, rfl⟩, ?_⟩
        simp only [Gn.d] at eg
        simp [bodies, zEv, List.map_cons, List.map_nil, List.length_cons, List.length_nil, List.cons_append, List.nil_append, List.append_nil, List.getElem?_cons_zero, List.getElem?_cons_succ, List.set_cons_zero, List.set_cons_succ, ofString_inj, ofString_beq, Tm.d, at0, at1, at2, at3, at4, at5, m1, m2, m3, m4, eg, gdTup, gsCons, gsNil, gdName, cl2, ca2]
    · have hv : v = .stuck a := by
        cases y <;> first | exact absurd rfl (hy _) | (simp only [Option.some.injEq] at h; exact h.symm)
      subst hv
      refine ⟨"stuck", .int a, ⟨rfl, rfl⟩, ?_⟩
      rw [ey] at m2
      simp only [Cl.d] at m1
      simp [bodies, zEv, List.map_cons, List.map_nil, List.length_cons, List.length_nil, List.cons_append, List.nil_append, List.append_nil, List.getElem?_cons_zero, List.getElem?_cons_succ, List.set_cons_zero, List.set_cons_succ, ofString_inj, ofString_beq, Tm.d, at0, at1, at2, at3, m1, m2, hw]
  · have hv : v = .stuck a := by
      cases x <;> first | exact absurd rfl (hx _) | (simp only [Option.some.injEq] at h; exact h.symm)
    subst hv
    refine ⟨"stuck", .int a, ⟨rfl, rfl⟩, ?_⟩
    rw [ex] at m1
    simp [bodies, zEv, List.map_cons, List.map_nil, List.length_cons, List.length_nil, List.cons_append, List.nil_append, List.append_nil, List.getElem?_cons_zero, List.getElem?_cons_succ, List.set_cons_zero, List.set_cons_succ, ofString_inj, ofString_beq, Tm.d, at0, at1, at2, at3, m1, m2, hw]
theorem chosen_D {k : Nat} (hk : 2 ≤ k) (S : List O) {a : Int} {p t u : Tm} {e : Ce} {v : Pv} (h : gon (.pick a p t u) e = some v) : ∃ w d, PvR v w d ∧ Fk k .chosen_of [(Tm.pick a p t u).d, .dic (Ce.ks e)] S = some (.tup [.str w, d], S) := by
  obtain ⟨k, rfl⟩ : ∃ j, k = j + 1 := ⟨k - 1, by omega⟩
  simp only [gon, Option.bind_eq_some_iff] at h
  obtain ⟨x, h1, h⟩ := h
  have m1 := meant_D (k := k) (by omega) S h1
  rw [Fk_s]
  rcases cl_num (c := x) with ⟨m, rfl⟩ | ⟨w, r, ex, hw, hx⟩
  · simp only [Option.some.injEq] at h
    subst h
    refine ⟨"step", _, ⟨.inl rfl, rfl⟩, ?_⟩
    simp only [Cl.d] at m1
    by_cases z : m = 0 <;> simp [bodies, zEv, List.map_cons, List.map_nil, List.length_cons, List.length_nil, List.cons_append, List.nil_append, List.append_nil, List.getElem?_cons_zero, List.getElem?_cons_succ, List.set_cons_zero, List.set_cons_succ, ofString_inj, ofString_beq, Tm.d, at0, at1, at2, at3, at4, m1, z]
  · have hv : v = .stuck a := by
      cases x <;> first | exact absurd rfl (hx _) | (simp only [Option.some.injEq] at h; exact h.symm)
    subst hv
    refine ⟨"stuck", .int a, ⟨rfl, rfl⟩, ?_⟩
    rw [ex] at m1
    simp [bodies, zEv, List.map_cons, List.map_nil, List.length_cons, List.length_nil, List.cons_append, List.nil_append, List.append_nil, List.getElem?_cons_zero, List.getElem?_cons_succ, List.set_cons_zero, List.set_cons_succ, ofString_inj, ofString_beq, Tm.d, at0, at1, at2, m1, hw]
theorem cl_fin {c : Cl} : c = .fin ∨ ∃ w r, c.d = .tup (.str w :: r) ∧ w ≠ "end" ∧ c ≠ .fin := by
  cases c with
  | fin => exact .inl rfl
  | halt => exact .inr ⟨_, _, rfl, by decide, fun z => by cases z⟩
  | num => exact .inr ⟨_, _, rfl, by decide, fun z => by cases z⟩
  | code => exact .inr ⟨_, _, rfl, by decide, fun z => by cases z⟩
  | thn => exact .inr ⟨_, _, rfl, by decide, fun z => by cases z⟩
  | last => exact .inr ⟨_, _, rfl, by decide, fun z => by cases z⟩
theorem gone_on_D {k : Nat} (hk : 4 ≤ k) (S : List O) (ok : okS S) {tm : Tm} {e : Ce} {v : Pv} (hn : e.nds) (hl : e.mx < 16000000) (h : gon tm e = some v) : ∃ w t, PvR v w t ∧ Fk k .gone_on [tm.d, .dic (Ce.ks e)] S = some (.tup [.str w, t], S) := by
  obtain ⟨k, rfl⟩ : ∃ j, k = j + 1 := ⟨k - 1, by omega⟩
  have hm := len_mx e
  cases tm with
  | pass kt p g =>
    simp only [gon, Option.bind_eq_some_iff, Option.map_eq_some_iff] at h
    obtain ⟨k', h1, p', h2, g', h3, z, h4, rfl⟩ := h
    have m1 := meant_D (k := k) (by omega) S h1
    have m2 := meant_D (k := k) (by omega) S h2
    have m3 := meant_D (k := k) (by omega) S h3
    have hk2 := mean_mx h1
    have eg := going_D (k := k) (by omega) S ok h4 (mean_nd hn h1) (mean_nd hn h2) (mean_nd hn h3) (by omega)
    rw [Fk_s]
    cases z with
    | told c =>
      refine ⟨"told", c.d, ⟨rfl, rfl⟩, ?_⟩
      simp only [Gn.d] at eg
      simp [bodies, b_gone_on_t1, zEv, List.map_cons, List.map_nil, List.length_cons, List.length_nil, List.cons_append, List.nil_append, List.append_nil, List.getElem?_cons_zero, List.getElem?_cons_succ, List.set_cons_zero, List.set_cons_succ, ofString_inj, ofString_beq, Tm.d, at0, at1, at2, at3, m1, m2, m3, eg]
    | at_ tm e' =>
      refine ⟨"move", _, ⟨rfl, rfl⟩, ?_⟩
      simp only [Gn.d] at eg
      simp [bodies, b_gone_on_t1, zEv, List.map_cons, List.map_nil, List.length_cons, List.length_nil, List.cons_append, List.nil_append, List.append_nil, List.getElem?_cons_zero, List.getElem?_cons_succ, List.set_cons_zero, List.set_cons_succ, ofString_inj, ofString_beq, Tm.d, at0, at1, at2, at3, m1, m2, m3, eg]
  | lt w p t =>
    simp only [gon, Option.map_eq_some_iff] at h
    obtain ⟨v', h1, rfl⟩ := h
    have m1 := meant_D (k := k) (by omega) S h1
    have ew := with_names_D (k := k) (by omega) S ok e [w] [v'] hn (fun v hv => by rw [List.mem_singleton] at hv; rw [hv]; exact mean_nd hn h1) (by simp; omega)
    simp only [List.map_cons, List.map_nil, setEs] at ew
    rw [Fk_s]
    refine ⟨"move", _, ⟨rfl, rfl⟩, ?_⟩
    simp [bodies, b_gone_on_t1, b_gone_on_t2, zEv, List.map_cons, List.map_nil, List.length_cons, List.length_nil, List.cons_append, List.nil_append, List.append_nil, List.getElem?_cons_zero, List.getElem?_cons_succ, List.set_cons_zero, List.set_cons_succ, ofString_inj, ofString_beq, Tm.d, at0, at1, at2, at3, m1, ew]
  | leave g p =>
    simp only [gon, Option.bind_eq_some_iff] at h
    obtain ⟨l, h1, v', h2, h3⟩ := h
    cases l <;> simp only [Option.some.injEq] at h3 <;> try cases h3
    rename_i w t e'
    have m1 := meant_D (k := k) (by omega) S h1
    have m2 := meant_D (k := k) (by omega) S h2
    have hk2 := mean_mx h1
    simp only [Cl.mx] at hk2
    have hm2 := len_mx e'
    have nf := mean_nd hn h1
    have ew := with_names_D (k := k) (by omega) S ok e' [w] [v'] nf (fun v hv => by rw [List.mem_singleton] at hv; rw [hv]; exact mean_nd hn h2) (by simp; omega)
    simp only [List.map_cons, List.map_nil, setEs] at ew
    simp only [Cl.d] at m1
    rw [Fk_s]
    refine ⟨"step", _, ⟨.inl rfl, rfl⟩, ?_⟩
    simp [bodies, b_gone_on_t1, b_gone_on_t2, b_gone_on_t3, zEv, List.map_cons, List.map_nil, List.length_cons, List.length_nil, List.cons_append, List.nil_append, List.append_nil, List.getElem?_cons_zero, List.getElem?_cons_succ, List.set_cons_zero, List.set_cons_succ, ofString_inj, ofString_beq, Tm.d, at0, at1, at2, at3, m1, m2, ew]
  | shut p kt g =>
    simp only [gon, Option.bind_eq_some_iff, Option.map_eq_some_iff] at h
    obtain ⟨k', h1, p', h2, g', h3, z, h4, rfl⟩ := h
    have m1 := meant_D (k := k) (by omega) S h1
    have m2 := meant_D (k := k) (by omega) S h2
    have m3 := meant_D (k := k) (by omega) S h3
    have hk2 := mean_mx h1
    have eg := going_D (k := k) (by omega) S ok h4 (mean_nd hn h1) (mean_nd hn h2) (mean_nd hn h3) (by omega)
    rw [Fk_s]
    cases z with
    | told c =>
      refine ⟨"step told", c.d, ⟨rfl, rfl⟩, ?_⟩
      simp only [Gn.d] at eg
      simp [bodies, b_gone_on_t1, b_gone_on_t2, b_gone_on_t3, b_gone_on_t4, zEv, List.map_cons, List.map_nil, List.length_cons, List.length_nil, List.cons_append, List.nil_append, List.append_nil, List.getElem?_cons_zero, List.getElem?_cons_succ, List.set_cons_zero, List.set_cons_succ, ofString_inj, ofString_beq, Tm.d, at0, at1, at2, at3, m1, m2, m3, eg, gdTup, gsCons, gsNil, gdName, cl1, ca1]
    | at_ tm e' =>
      refine ⟨"step move", _, ⟨.inr rfl, rfl⟩, ?_⟩
      simp only [Gn.d] at eg
      simp [bodies, b_gone_on_t1, b_gone_on_t2, b_gone_on_t3, b_gone_on_t4, zEv, List.map_cons, List.map_nil, List.length_cons, List.length_nil, List.cons_append, List.nil_append, List.append_nil, List.getElem?_cons_zero, List.getElem?_cons_succ, List.set_cons_zero, List.set_cons_succ, ofString_inj, ofString_beq, Tm.d, at0, at1, at2, at3, m1, m2, m3, eg, gdTup, gsCons, gsNil, gdName, cl2, ca2]
  | call a p q kt g =>
    obtain ⟨w, t, h1, h2⟩ := called_D' (k := k) (by omega) S ok hn hl h
    refine ⟨w, t, h1, ?_⟩
    rw [Fk_s]
    simp only [Tm.d] at h2 ⊢
    simp [bodies, b_gone_on_t1, b_gone_on_t2, b_gone_on_t3, b_gone_on_t4, b_gone_on_t5, zEv, List.map_cons, List.map_nil, List.length_cons, List.length_nil, List.cons_append, List.nil_append, List.append_nil, List.getElem?_cons_zero, List.getElem?_cons_succ, List.set_cons_zero, List.set_cons_succ, ofString_inj, ofString_beq, at0, h2]
  | plus a p q kt g =>
    obtain ⟨w, t, h1, h2⟩ := summed_D (k := k) (by omega) S ok hn hl h
    refine ⟨w, t, h1, ?_⟩
    rw [Fk_s]
    simp only [Tm.d] at h2 ⊢
    simp [bodies, b_gone_on_t1, b_gone_on_t2, b_gone_on_t3, b_gone_on_t4, b_gone_on_t5, b_gone_on_t6, zEv, List.map_cons, List.map_nil, List.length_cons, List.length_nil, List.cons_append, List.nil_append, List.append_nil, List.getElem?_cons_zero, List.getElem?_cons_succ, List.set_cons_zero, List.set_cons_succ, ofString_inj, ofString_beq, at0, h2]
  | pick a p t u =>
    obtain ⟨w, d, h1, h2⟩ := chosen_D (k := k) (by omega) S h
    refine ⟨w, d, h1, ?_⟩
    rw [Fk_s]
    simp only [Tm.d] at h2 ⊢
    simp [bodies, b_gone_on_t1, b_gone_on_t2, b_gone_on_t3, b_gone_on_t4, b_gone_on_t5, b_gone_on_t6, b_gone_on_t7, zEv, List.map_cons, List.map_nil, List.length_cons, List.length_nil, List.cons_append, List.nil_append, List.append_nil, List.getElem?_cons_zero, List.getElem?_cons_succ, List.set_cons_zero, List.set_cons_succ, ofString_inj, ofString_beq, at0, h2]
  | ask a g t =>
    simp only [gon, Option.bind_eq_some_iff] at h
    obtain ⟨x, h1, h⟩ := h
    have m1 := meant_D (k := k) (by omega) S h1
    rw [Fk_s]
    rcases cl_fin (c := x) with rfl | ⟨w, r, ex, hw, hx⟩
    · simp only [Option.some.injEq] at h
      subst h
      refine ⟨"stuck", .int a, ⟨rfl, rfl⟩, ?_⟩
      simp only [Cl.d] at m1
      simp [bodies, b_gone_on_t1, b_gone_on_t2, b_gone_on_t3, b_gone_on_t4, b_gone_on_t5, b_gone_on_t6, b_gone_on_t7, b_gone_on_t8, zEv, List.map_cons, List.map_nil, List.length_cons, List.length_nil, List.cons_append, List.nil_append, List.append_nil, List.getElem?_cons_zero, List.getElem?_cons_succ, List.set_cons_zero, List.set_cons_succ, ofString_inj, ofString_beq, Tm.d, at0, at1, at2, at3, m1]
    · have hv : v = .step (.at_ t e) := by
        cases x <;> first | exact absurd rfl hx | (simp only [Option.some.injEq] at h; exact h.symm)
      subst hv
      refine ⟨"step", _, ⟨.inl rfl, rfl⟩, ?_⟩
      rw [ex] at m1
      simp [bodies, b_gone_on_t1, b_gone_on_t2, b_gone_on_t3, b_gone_on_t4, b_gone_on_t5, b_gone_on_t6, b_gone_on_t7, b_gone_on_t8, b_gone_on_t9, zEv, List.map_cons, List.map_nil, List.length_cons, List.length_nil, List.cons_append, List.nil_append, List.append_nil, List.getElem?_cons_zero, List.getElem?_cons_succ, List.set_cons_zero, List.set_cons_succ, ofString_inj, ofString_beq, Tm.d, at0, at1, at2, at3, m1, hw]
  | _ => simp [gon] at h
theorem told_of_D {k : Nat} (hk : 1 ≤ k) (S : List O) {c : Cl} {r : Rs} (h : ansC c = some r) : Fk k .told_of [c.d] S = some (r.d, S) := by
  obtain ⟨k, rfl⟩ := lev hk
  rw [Fk_s]
  cases c with
  | num n => cases h; simp [bodies, zEv, List.map_cons, List.map_nil, List.length_cons, List.length_nil, List.cons_append, List.nil_append, List.append_nil, List.getElem?_cons_zero, List.getElem?_cons_succ, List.set_cons_zero, List.set_cons_succ, ofString_inj, ofString_beq, Cl.d, at0, at1, Rs.d]
  | code fn a w k g t e => cases fn <;> cases h <;> simp [bodies, zEv, List.map_cons, List.map_nil, List.length_cons, List.length_nil, List.cons_append, List.nil_append, List.append_nil, List.getElem?_cons_zero, List.getElem?_cons_succ, List.set_cons_zero, List.set_cons_succ, ofString_inj, ofString_beq, Cl.d, at0, at1, at2, Rs.d, wdC]
  | _ => simp [ansC] at h
theorem sw1 : Txt.startswith (Str.ofString "told") (Str.ofString "step") = false := by decide +kernel
theorem sw2 : Txt.startswith (Str.ofString "move") (Str.ofString "step") = false := by decide +kernel
theorem sw3 : Txt.startswith (Str.ofString "step told") (Str.ofString "step") = true := by decide +kernel
theorem sw4 : Txt.startswith (Str.ofString "step") (Str.ofString "step") = true := by decide +kernel
theorem sw5 : Txt.startswith (Str.ofString "step move") (Str.ofString "step") = true := by decide +kernel
theorem ew1 : Txt.endswith (Str.ofString "told") (Str.ofString "told") = true := by decide +kernel
theorem ew2 : Txt.endswith (Str.ofString "move") (Str.ofString "told") = false := by decide +kernel
theorem ew3 : Txt.endswith (Str.ofString "step told") (Str.ofString "told") = true := by decide +kernel
theorem ew4 : Txt.endswith (Str.ofString "step") (Str.ofString "told") = false := by decide +kernel
theorem ew5 : Txt.endswith (Str.ofString "step move") (Str.ofString "told") = false := by decide +kernel
def runB (k : Nat) : B := (sSeq (sAsg (eCall 2 (Fk k .gone_on) (aCons (eOp dIx (eVar 3) (eC (.int 0))) (aCons (eOp dIx (eVar 3) (eC (.int 1))) aNil))) (gdTup 2 (gsCons (gdName 4) (gsCons (gdName 3) gsNil))))
  (sSeq (sIf (tOf (eOp (dEq 64) (eVar 4) (eC (.str "stuck")))) (sRet (eTup (aCons (eC (.str "stuck")) (aCons (eVar 3) aNil)))) sNext)
  (sSeq (sIf (tOf (eS1 dStarts (eVar 4) (eC (.str "step")))) (sSeq (sIf (tOf (eOp (dEq 64) (eVar 2) (eVar 1))) (sRet (eTup (aCons (eC (.str "dry")) aNil))) sNext)
  (sSet 2 (eOp dAdd (eVar 2) (eC (.int 1))))) sNext)
  (sIf (tOf (eS1 dEnds (eVar 4) (eC (.str "told")))) (sRet (eCall 1 (Fk k .told_of) (aCons (eVar 3) aNil))) sNext))))
theorem run_loop {k : Nat} (hk : 4 ≤ k) (S : List O) (ok : okS S) (d0 : D) (NN : Nat) : ∀ (t n c fu : Nat) (tm : Tm) (e : Ce) (r : Rs) (z : Option D), t ≤ fu → prun t n tm e = some r → c + n = NN → e.nds → e.mx + 3 * t < 16000000 →
    whD (tOf (eC (.bl true))) (runB k) fu [some d0, some (.int (NN : Nat)), some (.int (c : Nat)), some (.tup [tm.d, .dic (Ce.ks e)]), z] S = some (.rt r.d S)
  | 0, _, _, _, _, _, _, _, _, h, _, _, _ => by simp [prun] at h
  | t + 1, n, c, fu, tm, e, r, z, hfu, h, hcn, hn, hl => by
    obtain ⟨fu, rfl⟩ : ∃ i, fu = i + 1 := ⟨fu - 1, by omega⟩
    unfold prun at h
    cases hg : gon tm e with
    | none => rw [hg] at h; simp at h
    | some v =>
      rw [hg] at h
      obtain ⟨w, d, hR, eg⟩ := gone_on_D (k := k) hk S ok hn (by omega) hg
      have hmx := gon_mx hg
      have hnd := gon_nd hn hg
      have ct : tOf (eC (.bl true)) [some d0, some (.int (NN : Nat)), some (.int (c : Nat)), some (.tup [tm.d, .dic (Ce.ks e)]), z] S = some (true, S) := by simp [zEv, List.map_cons, List.map_nil, List.length_cons, List.length_nil, List.cons_append, List.nil_append, List.append_nil, List.getElem?_cons_zero, List.getElem?_cons_succ, List.set_cons_zero, List.set_cons_succ, ofString_inj, ofString_beq]
      unfold whD
      rw [ct]
      simp only [Option.bind_some, if_true]
      cases v with
      | stuck a =>
        obtain ⟨rfl, rfl⟩ := hR
        simp only [Option.some.injEq] at h
        subst h
        simp [runB, zEv, List.map_cons, List.map_nil, List.length_cons, List.length_nil, List.cons_append, List.nil_append, List.append_nil, List.getElem?_cons_zero, List.getElem?_cons_succ, List.set_cons_zero, List.set_cons_succ, ofString_inj, ofString_beq, at0, at1, eg, gdTup, gsCons, gsNil, gdName, Rs.d]
      | move g =>
        cases g with
        | told v =>
          obtain ⟨rfl, rfl⟩ := hR
          have et := told_of_D (k := k) (by omega) S h
          simp [runB, zEv, List.map_cons, List.map_nil, List.length_cons, List.length_nil, List.cons_append, List.nil_append, List.append_nil, List.getElem?_cons_zero, List.getElem?_cons_succ, List.set_cons_zero, List.set_cons_succ, ofString_inj, ofString_beq, at0, at1, eg, gdTup, gsCons, gsNil, gdName, sw1, ew1, et]
        | at_ tm' e' =>
          obtain ⟨rfl, rfl⟩ := hR
          simp only [Pv.mx, Gn.mx] at hmx
          have ih := run_loop hk S ok d0 NN t n c fu tm' e' r (some (.str "move")) (by omega) h hcn hnd (by omega)
          simp [runB, zEv, List.map_cons, List.map_nil, List.length_cons, List.length_nil, List.cons_append, List.nil_append, List.append_nil, List.getElem?_cons_zero, List.getElem?_cons_succ, List.set_cons_zero, List.set_cons_succ, ofString_inj, ofString_beq, at0, at1, eg, gdTup, gsCons, gsNil, gdName, sw2, ew2]
          exact ih
      | step g =>
        cases n with
        | zero =>
          have : c = NN := by omega
          subst this
          simp only [Option.some.injEq] at h
          subst h
          cases g with
          | told v =>
            obtain ⟨rfl, rfl⟩ := hR
            simp [runB, zEv, List.map_cons, List.map_nil, List.length_cons, List.length_nil, List.cons_append, List.nil_append, List.append_nil, List.getElem?_cons_zero, List.getElem?_cons_succ, List.set_cons_zero, List.set_cons_succ, ofString_inj, ofString_beq, at0, at1, eg, gdTup, gsCons, gsNil, gdName, sw3, Rs.d]
          | at_ tm' e' =>
            obtain ⟨hw, rfl⟩ := hR
            rcases hw with rfl | rfl
            · simp [runB, zEv, List.map_cons, List.map_nil, List.length_cons, List.length_nil, List.cons_append, List.nil_append, List.append_nil, List.getElem?_cons_zero, List.getElem?_cons_succ, List.set_cons_zero, List.set_cons_succ, ofString_inj, ofString_beq, at0, at1, eg, gdTup, gsCons, gsNil, gdName, sw4, Rs.d]
            · simp [runB, zEv, List.map_cons, List.map_nil, List.length_cons, List.length_nil, List.cons_append, List.nil_append, List.append_nil, List.getElem?_cons_zero, List.getElem?_cons_succ, List.set_cons_zero, List.set_cons_succ, ofString_inj, ofString_beq, at0, at1, eg, gdTup, gsCons, gsNil, gdName, sw5, Rs.d]
        | succ n =>
          have ne : ¬ ((c : Nat) : Int) = (NN : Int) := by omega
          have ec : ((c : Nat) : Int) + 1 = ((c + 1 : Nat) : Int) := by omega
          cases g with
          | told v =>
            obtain ⟨rfl, rfl⟩ := hR
            have et := told_of_D (k := k) (by omega) S h
            simp [runB, zEv, List.map_cons, List.map_nil, List.length_cons, List.length_nil, List.cons_append, List.nil_append, List.append_nil, List.getElem?_cons_zero, List.getElem?_cons_succ, List.set_cons_zero, List.set_cons_succ, ofString_inj, ofString_beq, at0, at1, eg, gdTup, gsCons, gsNil, gdName, sw3, ew3, ne, et]
          | at_ tm' e' =>
            obtain ⟨hw, rfl⟩ := hR
            simp only [Pv.mx, Gn.mx] at hmx
            rcases hw with rfl | rfl
            · have ih := run_loop hk S ok d0 NN t n (c + 1) fu tm' e' r (some (.str "step")) (by omega) h (by omega) hnd (by omega)
              rw [← ec] at ih
              simp [runB, zEv, List.map_cons, List.map_nil, List.length_cons, List.length_nil, List.cons_append, List.nil_append, List.append_nil, List.getElem?_cons_zero, List.getElem?_cons_succ, List.set_cons_zero, List.set_cons_succ, ofString_inj, ofString_beq, at0, at1, eg, gdTup, gsCons, gsNil, gdName, sw4, ew4, ne]
              exact ih
            · have ih := run_loop hk S ok d0 NN t n (c + 1) fu tm' e' r (some (.str "step move")) (by omega) h (by omega) hnd (by omega)
              rw [← ec] at ih
              simp [runB, zEv, List.map_cons, List.map_nil, List.length_cons, List.length_nil, List.cons_append, List.nil_append, List.append_nil, List.getElem?_cons_zero, List.getElem?_cons_succ, List.set_cons_zero, List.set_cons_succ, ofString_inj, ofString_beq, at0, at1, eg, gdTup, gsCons, gsNil, gdName, sw5, ew5, ne]
              exact ih
theorem run_plain_D {k : Nat} (hk : 6 ≤ k) (S : List O) (ok : okS S) (tm : Tm) (n t : Nat) (r : Rs) (hn : n ≤ 1000000) (h : prun t n tm .nil = some r) (ht : 3 * t < 16000000) : Fk k .run_plain [tm.d, .int (n : Nat)] S = some (r.d, S) := by
  obtain ⟨k, rfl⟩ : ∃ j, k = j + 1 := ⟨k - 1, by omega⟩
  have ew := is_whole_D (k := k) (by omega) (n : Nat) S
  have lp := run_loop (k := k) (by omega) S ok tm.d n t n 0 big tm .nil r none (by unfold big; omega) h (by omega) trivial (by simp only [Ce.mx]; omega)
  have z0 : ((0 : Nat) : Int) = 0 := rfl
  simp only [runB, z0, Ce.ks] at lp
  have h0 : (0 : Int) ≤ n := by omega
  have h1 : (n : Int) ≤ 1000000 := by omega
  rw [Fk_s]
  simp [bodies, b_run_plain_t1, b_run_plain_t2, b_run_plain_t3, zEv, List.map_cons, List.map_nil, List.length_cons, List.length_nil, List.cons_append, List.nil_append, List.append_nil, List.getElem?_cons_zero, List.getElem?_cons_succ, List.set_cons_zero, List.set_cons_succ, ofString_inj, ofString_beq, sWhile_u, ew, h0, h1, lp]
/-! ## k07: what is known, by data -/
def Kv.d : Kv → D
  | .num n => .tup [.str "num", .int n]
  | .code fn a => .tup [.str "code", .str (wdC fn), .int a]
  | .codeP fn a b v => .tup [.str "code", .str (wdC fn), .int a, .int b, v.d]
  | .fin => .tup [.str "end"]
def kks (e : Kn) : List (Key × D) := e.map fun p => (.inr p.1, p.2.d)
theorem kks_val (x : Str) : ∀ e : Kn, valD (kks e) (.inr x) = (kget e x).map Kv.d
  | [] => rfl
  | (y, v) :: e => by
    show valD ((Sum.inr y, v.d) :: kks e) (.inr x) = _
    rw [valD_c]
    simp only [kget]
    by_cases h : y = x
    · subst h; simp
    · have : ¬ (Sum.inr y : Key) = Sum.inr x := fun z => h (Sum.inr.inj z)
      rw [if_neg this, if_neg h, kks_val x e]
theorem kks_len (e : Kn) : (kks e).length = e.length := List.length_map ..
def Kok (e : Kn) : Prop := (knm e).Nodup ∧ e.length ≤ 60 ∧ ∀ x ∈ knm e, PySem.PyData.strOk x = true
theorem map_out {x : Str} {d : D} : ∀ {e : Kn}, x ∉ knm e → (kks e).map (fun kv => if kv.1 = (.inr x : Key) then (kv.1, d) else kv) = kks e
  | [], _ => rfl
  | (y, v) :: e, h => by
    simp only [knm, List.map_cons, List.mem_cons, not_or] at h
    show (if (Sum.inr y : Key) = Sum.inr x then _ else _) :: (kks e).map _ = _
    have : ¬ (Sum.inr y : Key) = Sum.inr x := fun z => h.1 (Sum.inr.inj z).symm
    rw [if_neg this, map_out h.2]
    rfl
theorem kks_put (x : Str) (v : Kv) : ∀ {e : Kn}, (knm e).Nodup → putD (kks e) (.inr x) v.d = kks (kset e x v)
  | [], _ => rfl
  | (y, w) :: e, h => by
    simp only [knm, List.map_cons, List.nodup_cons] at h
    show putD ((Sum.inr y, w.d) :: kks e) (.inr x) v.d = _
    rw [putD_c]
    simp only [kset]
    by_cases q : y = x
    · subst q
      rw [if_pos rfl, if_pos rfl, map_out h.1]
      rfl
    · have : ¬ (Sum.inr y : Key) = Sum.inr x := fun z => q (Sum.inr.inj z)
      rw [if_neg this, if_neg q, kks_put x v h.2]
      rfl
theorem kset_nodup (x : Str) (v : Kv) : ∀ {e : Kn}, (knm e).Nodup → (knm (kset e x v)).Nodup
  | [], _ => by simp [kset, knm]
  | (y, w) :: e, h => by
    have h0 := h
    simp only [knm, List.map_cons, List.nodup_cons] at h
    simp only [kset]
    by_cases q : y = x
    · rw [if_pos q]; exact h0
    · rw [if_neg q]
      simp only [knm, List.map_cons, List.nodup_cons]
      refine ⟨fun z => ?_, kset_nodup x v h.2⟩
      rcases kset_mem z with z | z
      · exact q z
      · exact h.1 z
theorem okD_kv (n : Nat) : ∀ v : Kv, okD n v.d = true
  | .num _ => by simp [Kv.d, okD, okDs]
  | .code _ _ => by simp [Kv.d, okD, okDs]
  | .codeP _ _ _ v => by simp [Kv.d, okD, okDs, okD_kv n v]
  | .fin => by simp [Kv.d, okD, okDs]
theorem okK_kn (n : Nat) : ∀ e : Kn, okKs n (kks e) = true
  | [] => by simp [kks, okKs]
  | (x, v) :: e => by
    show okKs n ((Sum.inr x, v.d) :: kks e) = true
    simp [okKs, okD_kv n v, okK_kn n e]
def kafter : Kn → List Str → List Kv → Kn
  | e, x :: xs, v :: vs => kafter (kset e x v) xs vs
  | e, _, _ => e
theorem after_loop (S : List O) (d0 d1 d2 : D) : ∀ (xs : List Str) (vs : List Kv) (e : Kn) (z4 z5 : Option D), (knm e).Nodup → e.length + xs.length < 16777216 →
    ∃ z4' z5', forD (gdTup 2 (gsCons (gdName 4) (gsCons (gdName 5) gsNil))) (sDput (eVar 5) (eVar 3) (eVar 4)) (zipLD (xs.map D.str) (vs.map Kv.d)) [some d0, some d1, some d2, some (.ref S.length), z4, z5] (S ++ [.dic (kks e)]) =
      some (.nx [some d0, some d1, some d2, some (.ref S.length), z4', z5'] (S ++ [.dic (kks (kafter e xs vs))]))
  | [], vs, e, z4, z5, _, _ => ⟨z4, z5, by cases vs <;> simp [zEv, List.map_cons, List.map_nil, List.length_cons, List.length_nil, List.cons_append, List.nil_append, List.append_nil, List.getElem?_cons_zero, List.getElem?_cons_succ, List.set_cons_zero, List.set_cons_succ, ofString_inj, ofString_beq, kafter, zipLD]⟩
  | x :: xs, [], e, z4, z5, _, _ => ⟨z4, z5, by simp [zEv, List.map_cons, List.map_nil, List.length_cons, List.length_nil, List.cons_append, List.nil_append, List.append_nil, List.getElem?_cons_zero, List.getElem?_cons_succ, List.set_cons_zero, List.set_cons_succ, ofString_inj, ofString_beq, kafter, zipLD]⟩
  | x :: xs, v :: vs, e, z4, z5, hn, hl => by
    simp only [List.length_cons] at hl
    have hle := kset_len x v e
    obtain ⟨z4', z5', ih⟩ := after_loop S d0 d1 d2 xs vs (kset e x v) (some (.str x)) (some v.d) (kset_nodup x v hn) (by omega)
    have ep := put_new S (kks e) x v.d (by rw [kks_len]; omega)
    rw [kks_put x v hn] at ep
    refine ⟨z4', z5', ?_⟩
    simp only [List.map_cons, zipLD, kafter]
    simp [zEv, List.map_cons, List.map_nil, List.length_cons, List.length_nil, List.cons_append, List.nil_append, List.append_nil, List.getElem?_cons_zero, List.getElem?_cons_succ, List.set_cons_zero, List.set_cons_succ, ofString_inj, ofString_beq, gdTup, gsCons, gsNil, gdName, ep]
    exact ih
theorem after_D {k : Nat} (hk : 1 ≤ k) (S : List O) (ok : okS S) (e : Kn) (xs : List Str) (vs : List Kv) (hn : (knm e).Nodup) (hl : e.length + xs.length < 16777216) :
    Fk k ._law_known_after [.dic (kks e), .lst (xs.map D.str), .lst (vs.map Kv.d)] S = some (.dic (kks (kafter e xs vs)), S) := by
  obtain ⟨k, rfl⟩ := lev hk
  rw [Fk_s]
  obtain ⟨z4, z5, lp⟩ := after_loop S (.dic (kks e)) (.lst (xs.map D.str)) (.lst (vs.map Kv.d)) xs vs e none none hn hl
  have g := gc_dic (ks := kks (kafter e xs vs)) ok (okK_kn _ _)
  simp [bodies, zEv, List.map_cons, List.map_nil, List.length_cons, List.length_nil, List.cons_append, List.nil_append, List.append_nil, List.getElem?_cons_zero, List.getElem?_cons_succ, List.set_cons_zero, List.set_cons_succ, ofString_inj, ofString_beq, lp, g]
theorem after1 {k : Nat} (hk : 1 ≤ k) (S : List O) (ok : okS S) (e : Kn) (x : Str) (v : Kv) (r : List D) (hv : ∃ vs : List Kv, r = vs.map Kv.d) (he : Kok e) :
    Fk k ._law_known_after [.dic (kks e), .lst [.str x], .lst (v.d :: r)] S = some (.dic (kks (kset e x v)), S) := by
  obtain ⟨vs, rfl⟩ := hv
  have := after_D hk S ok e [x] (v :: vs) he.1 (by have := he.2.1; simp; omega)
  simpa [kafter] using this
theorem after2 {k : Nat} (hk : 1 ≤ k) (S : List O) (ok : okS S) (e : Kn) (x y : Str) (v w : Kv) (he : Kok e) :
    Fk k ._law_known_after [.dic (kks e), .lst [.str x, .str y], .lst [v.d, w.d]] S = some (.dic (kks (kset (kset e x v) y w)), S) := by
  have := after_D hk S ok e [x, y] [v, w] he.1 (by have := he.2.1; simp; omega)
  simpa [kafter] using this
theorem lmeant_D {k : Nat} (hk : 1 ≤ k) (S : List O) {e : Kn} {t : Tm} (s : Sk7 e t) : ∃ v, meanK t e = some v ∧ v ≠ .fin ∧ Fk k ._law_meant [t.d, .dic (kks e)] S = some (v.d, S) := by
  obtain ⟨k, rfl⟩ := lev hk
  rw [Fk_s]
  obtain ⟨v, hv, hn⟩ := s.mean
  refine ⟨v, hv, hn, ?_⟩
  cases s with
  | num n =>
    cases hv
    simp [bodies, b__law_meant_t1, b__law_meant_t2, zEv, List.map_cons, List.map_nil, List.length_cons, List.length_nil, List.cons_append, List.nil_append, List.append_nil, List.getElem?_cons_zero, List.getElem?_cons_succ, List.set_cons_zero, List.set_cons_succ, ofString_inj, ofString_beq, Tm.d, Kv.d, at0, cutD, HT.sIx]
  | @name w u hw hu =>
    have hv : kget e w = some v := hv
    have := kks_val w e
    rw [hv] at this
    simp [bodies, zEv, List.map_cons, List.map_nil, List.length_cons, List.length_nil, List.cons_append, List.nil_append, List.append_nil, List.getElem?_cons_zero, List.getElem?_cons_succ, List.set_cons_zero, List.set_cons_succ, ofString_inj, ofString_beq, Tm.d, at0, at1, this]
  | cdP fn a =>
    cases hv
    simp [bodies, b__law_meant_t1, b__law_meant_t2, zEv, List.map_cons, List.map_nil, List.length_cons, List.length_nil, List.cons_append, List.nil_append, List.append_nil, List.getElem?_cons_zero, List.getElem?_cons_succ, List.set_cons_zero, List.set_cons_succ, ofString_inj, ofString_beq, cdP, Tm.d, Kv.d, at0, at6, cutD, HT.sIx]
  | @cdQ fn a b o u hw hu h1 h2 h3 =>
    have hv : (kget e o).map (Kv.codeP fn a b) = some v := hv
    rw [hw] at hv
    cases hv
    have := kks_val o e
    rw [hw] at this
    simp [bodies, b__law_meant_t1, b__law_meant_t2, zEv, List.map_cons, List.map_nil, List.length_cons, List.length_nil, List.cons_append, List.nil_append, List.append_nil, List.getElem?_cons_zero, List.getElem?_cons_succ, List.set_cons_zero, List.set_cons_succ, ofString_inj, ofString_beq, cdQ, Tm.d, Kv.d, at0, at1, at2, at3, at6, this]
/-! ## k07: what a row does, by data -/
def Wd.s : Wd → Str
  | .lt => "let" | .pass => "pass" | .plus => "plus" | .pick => "pick" | .call => "call" | .shut => "shut" | .leave => "leave" | .ask => "ask" | .hthn => "held then" | .hlast => "held last"
def Rw.d (r : Rw) : D := .tup [.str r.w.s, .int r.a, .lst [.str r.n0, .str r.n1], .lst [r.s0.d, r.s1.d]]
def oD : Option Int → D
  | none => .non
  | some a => .tup [.str "stuck", .int a]
def bhD (b : Bh) : D := .tup [oD b.1, .dic (kks b.2.1), .int (b.2.2 : Nat)]
theorem kv_num (v : Kv) : (∃ n, v = .num n) ∨ ∃ w r, v.d = .tup (.str w :: r) ∧ w ≠ "num" ∧ ∀ n, v ≠ .num n := by
  cases v with
  | num n => exact .inl ⟨n, rfl⟩
  | code => exact .inr ⟨_, _, rfl, by decide, fun n z => nomatch z⟩
  | codeP => exact .inr ⟨_, _, rfl, by decide, fun n z => nomatch z⟩
  | fin => exact .inr ⟨_, _, rfl, by decide, fun n z => nomatch z⟩
theorem fin_d : D.tup [.str "end"] = Kv.fin.d := rfl
theorem bound_D {k : Nat} (hk : 2 ≤ k) (S : List O) (ok : okS S) (r : Rw) (e : Kn) (v : Kv) (j : Nat) (he : Kok e) : Fk k ._law_bound [r.d, .dic (kks e), v.d, .int (j : Nat)] S = some (bhD (Rw.go (bound r e v j)), S) := by
  obtain ⟨k, rfl⟩ : ∃ j, k = j + 1 := ⟨k - 1, by omega⟩
  have a1 := after1 (k := k) (by omega) S ok e r.n0 v [] ⟨[], rfl⟩ he
  have a2 := after2 (k := k) (by omega) S ok e r.n0 r.n1 v .fin he
  simp only [Kv.d] at a2
  have c1 : cutD [D.str r.n0, D.str r.n1] none (some 1) = [D.str r.n0] := by simp [cutD, HT.sIx]
  rw [Fk_s]
  unfold bound
  by_cases h1 : r.a % 4 = 1
  · rw [if_pos h1]
    simp [bodies, b__law_bound_t1, zEv, List.map_cons, List.map_nil, List.length_cons, List.length_nil, List.cons_append, List.nil_append, List.append_nil, List.getElem?_cons_zero, List.getElem?_cons_succ, List.set_cons_zero, List.set_cons_succ, ofString_inj, ofString_beq, Rw.d, at1, at2, h1, c1, a1, bhD, oD, Rw.go]
  · rw [if_neg h1]
    by_cases h2 : r.a % 4 = 2
    · simp [bodies, b__law_bound_t1, b__law_bound_t2, zEv, List.map_cons, List.map_nil, List.length_cons, List.length_nil, List.cons_append, List.nil_append, List.append_nil, List.getElem?_cons_zero, List.getElem?_cons_succ, List.set_cons_zero, List.set_cons_succ, ofString_inj, ofString_beq, Rw.d, at1, at2, h2, a2, bhD, oD, Rw.go]
    · simp [bodies, b__law_bound_t1, b__law_bound_t2, zEv, List.map_cons, List.map_nil, List.length_cons, List.length_nil, List.cons_append, List.nil_append, List.append_nil, List.getElem?_cons_zero, List.getElem?_cons_succ, List.set_cons_zero, List.set_cons_succ, ofString_inj, ofString_beq, Rw.d, at1, at2, h1, h2, a2, bhD, oD, Rw.go]
def callB (r : Rw) (e : Kn) (v0 v1 : Kv) : Bh := match v0 with
  | .code _ _ => Rw.go (bound r e v1 1)
  | .codeP _ _ b v => (match v1, v with
    | .num m, .num n => Rw.go (bound r e (.num (m + n)) 2)
    | _, _ => (some b, e, 1))
  | _ => (some r.a, e, 0)
theorem called_D {k : Nat} (hk : 3 ≤ k) (S : List O) (ok : okS S) (r : Rw) (e : Kn) (v0 v1 : Kv) (he : Kok e) : Fk k ._law_called [r.d, .dic (kks e), .lst [v0.d, v1.d]] S = some (bhD (callB r e v0 v1), S) := by
  obtain ⟨k, rfl⟩ : ∃ j, k = j + 1 := ⟨k - 1, by omega⟩
  have b1 := fun v => bound_D (k := k) (by omega) S ok r e v 1 he
  have b2 := fun v => bound_D (k := k) (by omega) S ok r e v 2 he
  have z1 : ((1 : Nat) : Int) = 1 := rfl
  have z2 : ((2 : Nat) : Int) = 2 := rfl
  simp only [z1] at b1
  simp only [z2] at b2
  rw [Fk_s]
  cases v0 with
  | num n => simp [bodies, zEv, List.map_cons, List.map_nil, List.length_cons, List.length_nil, List.cons_append, List.nil_append, List.append_nil, List.getElem?_cons_zero, List.getElem?_cons_succ, List.set_cons_zero, List.set_cons_succ, ofString_inj, ofString_beq, Rw.d, Kv.d, at0, at1, callB, bhD, oD]
  | fin => simp [bodies, zEv, List.map_cons, List.map_nil, List.length_cons, List.length_nil, List.cons_append, List.nil_append, List.append_nil, List.getElem?_cons_zero, List.getElem?_cons_succ, List.set_cons_zero, List.set_cons_succ, ofString_inj, ofString_beq, Rw.d, Kv.d, at0, at1, callB, bhD, oD]
  | code fn a =>
    have b1 := b1 v1
    simp only [Rw.d] at b1
    simp [bodies, b__law_called_t1, zEv, List.map_cons, List.map_nil, List.length_cons, List.length_nil, List.cons_append, List.nil_append, List.append_nil, List.getElem?_cons_zero, List.getElem?_cons_succ, List.set_cons_zero, List.set_cons_succ, ofString_inj, ofString_beq, Rw.d, Kv.d, at0, at1, callB, b1]
  | codeP fn a b v =>
    rcases kv_num v1 with ⟨m, rfl⟩ | ⟨w, x, ew, hw, hv⟩
    · rcases kv_num v with ⟨n, rfl⟩ | ⟨w, x, ew, hw, hv⟩
      · have b2 := b2 (.num (m + n))
        simp only [Rw.d, Kv.d] at b2
        simp [bodies, b__law_called_t1, b__law_called_t2, b__law_called_t3, zEv, List.map_cons, List.map_nil, List.length_cons, List.length_nil, List.cons_append, List.nil_append, List.append_nil, List.getElem?_cons_zero, List.getElem?_cons_succ, List.set_cons_zero, List.set_cons_succ, ofString_inj, ofString_beq, Rw.d, Kv.d, at0, at1, at4, callB, b2]
      · have : callB r e (.codeP fn a b v) (.num m) = (some b, e, 1) := by
          cases v <;> first | exact absurd rfl (hv _) | rfl
        rw [this]
        simp [bodies, b__law_called_t1, b__law_called_t2, zEv, List.map_cons, List.map_nil, List.length_cons, List.length_nil, List.cons_append, List.nil_append, List.append_nil, List.getElem?_cons_zero, List.getElem?_cons_succ, List.set_cons_zero, List.set_cons_succ, ofString_inj, ofString_beq, Rw.d, Kv.d, at0, at1, at3, at4, ew, hw, bhD, oD]
    · have : callB r e (.codeP fn a b v) v1 = (some b, e, 1) := by
        cases v1 <;> first | exact absurd rfl (hv _) | (cases v <;> rfl)
      rw [this]
      simp [bodies, b__law_called_t1, b__law_called_t2, zEv, List.map_cons, List.map_nil, List.length_cons, List.length_nil, List.cons_append, List.nil_append, List.append_nil, List.getElem?_cons_zero, List.getElem?_cons_succ, List.set_cons_zero, List.set_cons_succ, ofString_inj, ofString_beq, Rw.d, Kv.d, at0, at1, at3, at4, ew, hw, bhD, oD]
theorem srt_len (e : Kn) : (sortS (knm e)).length = e.length := by rw [(sortS_perm (knm e)).length_eq, knm, List.length_map]
theorem keys_D (S : List O) (e : Kn) : blListD [.dic (kks e)] S = some ((knm e).map D.str) := by
  show some ((kks e).map fun k => kD k.1) = _
  simp only [kks, knm, List.map_map]
  rfl
theorem strL_map : ∀ l : List Str, strL (l.map D.str) = some l
  | [] => rfl
  | x :: l => by show (strL (l.map D.str)).bind _ = _; rw [strL_map l]; rfl
theorem sort_D (S : List O) {e : Kn} (he : Kok e) : blSort [.lst ((knm e).map D.str)] S = some ((sortS (knm e)).map D.str) := by
  show (strL ((knm e).map D.str)).bind _ = _
  rw [strL_map]
  show (if (knm e).length < 64 then _ else _) = _
  rw [if_pos (by have := he.2.1; simp [knm]; omega)]
theorem atI_getD {α : Type} {l : List α} {i : Int} (d : α) (h0 : 0 ≤ i) (h1 : i < l.length) : atI l i = some (l[i.toNat]?.getD d) := by
  obtain ⟨j, rfl⟩ : ∃ j : Nat, i = (j : Int) := ⟨i.toNat, by omega⟩
  have h : j < l.length := by omega
  rw [atI_nat (List.getElem?_eq_getElem h)]
  simp [h]
theorem turned_D {k : Nat} (hk : 1 ≤ k) (S : List O) (r : Rw) {e : Kn} (he : Kok e) : Fk k ._law_turned [r.d, .dic (kks e)] S = some (.str (trnd r e), S) := by
  obtain ⟨k, rfl⟩ := lev hk
  rw [Fk_s]
  have k1 := keys_D S e
  have k2 := sort_D S he
  have e1 : (sortS (knm e)).map D.str ++ [D.str "c"] = ((sortS (knm e)) ++ [("c" : Str)]).map D.str := by simp
  have hlen : ((sortS (knm e)) ++ [("c" : Str)]).length = e.length + 1 := by rw [List.length_append, srt_len]; rfl
  have hl60 := he.2.1
  have k3 : dAdd (.lst ((sortS (knm e)).map D.str)) (.lst [.str "c"]) S = some (.lst (((sortS (knm e)) ++ [("c" : Str)]).map D.str)) := by
    rw [dAdd_l, if_pos (by rw [List.length_map, srt_len, sizeLine_eq]; simp; omega), e1]
  have k4 : bLen [.lst (((sortS (knm e)) ++ [("c" : Str)]).map D.str)] S = some (.int ((e.length : Int) + 1)) := by
    rw [bLen_l, List.length_map, hlen]; rfl
  have hp : (0 : Int) < (e.length : Int) + 1 := by omega
  have k5 : atI (((sortS (knm e)) ++ [("c" : Str)]).map D.str) (r.a % ((e.length : Int) + 1)) = some (.str (trnd r e)) := by
    rw [atI_map, atI_getD ("c" : Str) (Int.emod_nonneg _ (by omega)) (by rw [hlen]; have := Int.emod_lt_of_pos r.a hp; omega)]
    rfl
  have k6 : dInt gMod (.int r.a) (.int ((e.length : Int) + 1)) S = some (.int (r.a % ((e.length : Int) + 1))) := dMod_i hp
  have k5' : atI ((sortS (knm e)).map D.str ++ [D.str "c"]) (r.a % (((sortS (knm e)).length : Int) + 1)) = some (.str (trnd r e)) := by
    rw [srt_len, e1]; exact k5
  simp [bodies, zEv, List.map_cons, List.map_nil, List.length_cons, List.length_nil, List.cons_append, List.nil_append, List.append_nil, List.getElem?_cons_zero, List.getElem?_cons_succ, List.set_cons_zero, List.set_cons_succ, ofString_inj, ofString_beq, Rw.d, at1, k1, k2, k3, k4, k5', k6]
def heldB (r : Rw) (e : Kn) (v : Kv) : Bh := if r.w.s = "held last" then (none, kset e r.n0 v, 1) else (none, kset (kset e r.n0 v) r.n1 .fin, 0)
theorem kok_set {e : Kn} (he : Kok e) {x : Str} {v : Kv} (hx : PySem.PyData.strOk x = true) : (knm (kset e x v)).Nodup ∧ (kset e x v).length ≤ 61 ∧ ∀ y ∈ knm (kset e x v), PySem.PyData.strOk y = true := by
  refine ⟨kset_nodup x v he.1, by have := kset_len x v e; have := he.2.1; omega, fun y hy => ?_⟩
  rcases kset_mem hy with h | h
  · rw [h]; exact hx
  · exact he.2.2 y h
theorem held_D {k : Nat} (hk : 2 ≤ k) (S : List O) (ok : okS S) {r : Rw} {e : Kn} (g : Gd7 r (trnd r e) e) (d0 : D) {v1 : Kv} (hv1 : v1 ≠ .fin) (he : Kok e) : ∃ v, meanK r.s0 (kset e (trnd r e) v1) = some v ∧
    Fk k ._law_held [r.d, .dic (kks e), .lst [d0, v1.d]] S = some (bhD (heldB r e v), S) := by
  obtain ⟨k, rfl⟩ : ∃ j, k = j + 1 := ⟨k - 1, by omega⟩
  have t1 := turned_D (k := k) (by omega) S r he
  have a0 := after1 (k := k) (by omega) S ok e (trnd r e) v1 [] ⟨[], rfl⟩ he
  obtain ⟨v, m1, m2, m3⟩ := lmeant_D (k := k) (by omega) S (g.s0.later (trnd r e) hv1)
  have a1 := after1 (k := k) (by omega) S ok e r.n0 v [] ⟨[], rfl⟩ he
  have a2 := after2 (k := k) (by omega) S ok e r.n0 r.n1 v .fin he
  simp only [Kv.d] at a2
  have c1 : cutD [D.str r.n0, D.str r.n1] none (some 1) = [D.str r.n0] := by simp [cutD, HT.sIx]
  refine ⟨v, m1, ?_⟩
  simp only [Rw.d] at t1
  rw [Fk_s]
  unfold heldB
  by_cases h : r.w.s = "held last"
  · rw [if_pos h]
    rw [h] at t1
    simp [bodies, b__law_held_t1, b__law_held_t2, zEv, List.map_cons, List.map_nil, List.length_cons, List.length_nil, List.cons_append, List.nil_append, List.append_nil, List.getElem?_cons_zero, List.getElem?_cons_succ, List.set_cons_zero, List.set_cons_succ, ofString_inj, ofString_beq, Rw.d, at0, at1, at2, at3, h, t1, a0, m3, c1, a1, bhD, oD]
  · rw [if_neg h]
    simp [bodies, b__law_held_t1, b__law_held_t2, b__law_held_t3, zEv, List.map_cons, List.map_nil, List.length_cons, List.length_nil, List.cons_append, List.nil_append, List.append_nil, List.getElem?_cons_zero, List.getElem?_cons_succ, List.set_cons_zero, List.set_cons_succ, ofString_inj, ofString_beq, Rw.d, at0, at1, at2, at3, h, t1, a0, m3, a2, bhD, oD]
/-! ## k07: behind, term, by data -/
theorem dIn_two (x a b : Str) (S : List O) : dIn false (.str x) (.tup [.str a, .str b]) S = some (.bl (a == x || b == x)) := by
  simp [dIn, seqA, flatD, eqF]
theorem behind_D {k : Nat} (hk : 5 ≤ k) (S : List O) (ok : okS S) {r : Rw} {e : Kn} (g : Gd7 r (trnd r e) e) (he : Kok e) : ∃ b, beh r (trnd r e) e = some b ∧ Fk k ._law_behind [r.d, .dic (kks e)] S = some (bhD b, S) := by
  obtain ⟨k, rfl⟩ : ∃ j, k = j + 1 := ⟨k - 1, by omega⟩
  obtain ⟨v0, m0, f0, c0⟩ := lmeant_D (k := k) (by omega) S g.s0
  obtain ⟨v1, m1, f1, c1⟩ := lmeant_D (k := k) (by omega) S g.s1
  obtain ⟨v, m2, hh⟩ := held_D (k := k) (by omega) S ok g v0.d f1 he
  have hc := called_D (k := k) (by omega) S ok r e v0 v1 he
  have b1 := fun v => bound_D (k := k) (by omega) S ok r e v 1 he
  have b0 := fun v => bound_D (k := k) (by omega) S ok r e v 0 he
  have z1 : ((1 : Nat) : Int) = 1 := rfl
  have z0 : ((0 : Nat) : Int) = 0 := rfl
  simp only [z1] at b1
  simp only [z0] at b0
  have a1 := after1 (k := k) (by omega) S ok e r.n0 v0 [v1.d] ⟨[v1], rfl⟩ he
  have d1 : cutD [D.str r.n0, D.str r.n1] none (some 1) = [D.str r.n0] := by simp [cutD, HT.sIx]
  have st : ∀ w, r.w = w → Fk (k + 1) ._law_behind [r.d, .dic (kks e)] S = gcK S.length (fnK (b__law_behind_t2 (Fk k) [some r.d, some (.dic (kks e)), some (.str w.s), some (.int r.a), some (.lst [.str r.n0, .str r.n1]), some (.lst [r.s0.d, r.s1.d]), some (.lst [v0.d, v1.d]), none] S)) := fun w hw => by
    rw [Fk_s]
    subst hw
    simp [bodies, b__law_behind_t1, zEv, List.map_cons, List.map_nil, List.length_cons, List.length_nil, List.cons_append, List.nil_append, List.append_nil, List.getElem?_cons_zero, List.getElem?_cons_succ, List.set_cons_zero, List.set_cons_succ, ofString_inj, ofString_beq, Rw.d, gdTup, gsCons, gsNil, gdName, c0, c1]
  unfold beh
  rw [m0, m1]
  simp only [Option.bind_some]
  cases hw : r.w with
  | lt =>
    refine ⟨_, rfl, ?_⟩
    rw [st _ hw]
    simp [b__law_behind_t2, b__law_behind_t3, b__law_behind_t4, b__law_behind_t5, b__law_behind_t6, b__law_behind_t7, b__law_behind_t8, b__law_behind_t9, b__law_behind_t10, zEv, List.map_cons, List.map_nil, List.length_cons, List.length_nil, List.cons_append, List.nil_append, List.append_nil, List.getElem?_cons_zero, List.getElem?_cons_succ, List.set_cons_zero, List.set_cons_succ, ofString_inj, ofString_beq, Wd.s, dIn_two, d1, a1, bhD, oD]
  | pass =>
    refine ⟨_, rfl, ?_⟩
    rw [st _ hw]
    have b0 := b0 v0
    simp [b__law_behind_t2, b__law_behind_t3, b__law_behind_t4, b__law_behind_t5, b__law_behind_t6, b__law_behind_t7, b__law_behind_t8, b__law_behind_t9, zEv, List.map_cons, List.map_nil, List.length_cons, List.length_nil, List.cons_append, List.nil_append, List.append_nil, List.getElem?_cons_zero, List.getElem?_cons_succ, List.set_cons_zero, List.set_cons_succ, ofString_inj, ofString_beq, Wd.s, dIn_two, at0, b0]
  | leave =>
    refine ⟨_, rfl, ?_⟩
    rw [st _ hw]
    simp [b__law_behind_t2, b__law_behind_t3, b__law_behind_t4, b__law_behind_t5, b__law_behind_t6, b__law_behind_t7, b__law_behind_t8, zEv, List.map_cons, List.map_nil, List.length_cons, List.length_nil, List.cons_append, List.nil_append, List.append_nil, List.getElem?_cons_zero, List.getElem?_cons_succ, List.set_cons_zero, List.set_cons_succ, ofString_inj, ofString_beq, Wd.s, dIn_two, d1, a1, bhD, oD]
  | shut =>
    refine ⟨_, rfl, ?_⟩
    rw [st _ hw]
    have b1 := b1 v0
    simp [b__law_behind_t2, b__law_behind_t3, b__law_behind_t4, b__law_behind_t5, b__law_behind_t6, b__law_behind_t7, zEv, List.map_cons, List.map_nil, List.length_cons, List.length_nil, List.cons_append, List.nil_append, List.append_nil, List.getElem?_cons_zero, List.getElem?_cons_succ, List.set_cons_zero, List.set_cons_succ, ofString_inj, ofString_beq, Wd.s, dIn_two, at0, b1]
  | ask =>
    simp only
    by_cases h : r.a % 4 = 1
    · rw [if_pos h]
      refine ⟨_, rfl, ?_⟩
      rw [st _ hw]
      simp [b__law_behind_t2, b__law_behind_t3, b__law_behind_t4, b__law_behind_t5, b__law_behind_t6, zEv, List.map_cons, List.map_nil, List.length_cons, List.length_nil, List.cons_append, List.nil_append, List.append_nil, List.getElem?_cons_zero, List.getElem?_cons_succ, List.set_cons_zero, List.set_cons_succ, ofString_inj, ofString_beq, Wd.s, dIn_two, h, bhD, oD]
    · rw [if_neg h]
      refine ⟨_, rfl, ?_⟩
      rw [st _ hw]
      simp [b__law_behind_t2, b__law_behind_t3, b__law_behind_t4, b__law_behind_t5, b__law_behind_t6, zEv, List.map_cons, List.map_nil, List.length_cons, List.length_nil, List.cons_append, List.nil_append, List.append_nil, List.getElem?_cons_zero, List.getElem?_cons_succ, List.set_cons_zero, List.set_cons_succ, ofString_inj, ofString_beq, Wd.s, dIn_two, h, bhD, oD]
  | hthn =>
    rw [m2]
    refine ⟨_, rfl, ?_⟩
    rw [st _ hw]
    simp only [heldB, hw, Wd.s] at hh
    rw [if_neg (by decide +kernel)] at hh
    simp [b__law_behind_t2, b__law_behind_t3, b__law_behind_t4, b__law_behind_t5, zEv, List.map_cons, List.map_nil, List.length_cons, List.length_nil, List.cons_append, List.nil_append, List.append_nil, List.getElem?_cons_zero, List.getElem?_cons_succ, List.set_cons_zero, List.set_cons_succ, ofString_inj, ofString_beq, Wd.s, dIn_two, hh]
  | hlast =>
    rw [m2]
    refine ⟨_, rfl, ?_⟩
    rw [st _ hw]
    simp only [heldB, hw, Wd.s, if_true] at hh
    simp [b__law_behind_t2, b__law_behind_t3, b__law_behind_t4, b__law_behind_t5, zEv, List.map_cons, List.map_nil, List.length_cons, List.length_nil, List.cons_append, List.nil_append, List.append_nil, List.getElem?_cons_zero, List.getElem?_cons_succ, List.set_cons_zero, List.set_cons_succ, ofString_inj, ofString_beq, Wd.s, dIn_two, hh]
  | call =>
    refine ⟨callB r e v0 v1, ?_, ?_⟩
    · cases v0 with
      | num n => rfl
      | fin => rfl
      | code fn a => rfl
      | codeP fn a b v => cases v1 <;> first | rfl | (cases v <;> rfl)
    · rw [st _ hw]
      simp [b__law_behind_t2, b__law_behind_t3, b__law_behind_t4, zEv, List.map_cons, List.map_nil, List.length_cons, List.length_nil, List.cons_append, List.nil_append, List.append_nil, List.getElem?_cons_zero, List.getElem?_cons_succ, List.set_cons_zero, List.set_cons_succ, ofString_inj, ofString_beq, Wd.s, dIn_two, hc]
  | pick =>
    simp only
    rcases kv_num v0 with ⟨n, rfl⟩ | ⟨w, x, ew, hw', hv⟩
    · refine ⟨_, rfl, ?_⟩
      rw [st _ hw]
      simp [b__law_behind_t2, b__law_behind_t3, zEv, List.map_cons, List.map_nil, List.length_cons, List.length_nil, List.cons_append, List.nil_append, List.append_nil, List.getElem?_cons_zero, List.getElem?_cons_succ, List.set_cons_zero, List.set_cons_succ, ofString_inj, ofString_beq, Wd.s, at0, Kv.d, bhD, oD]
    · refine ⟨(some r.a, e, 0), by cases v0 <;> first | exact absurd rfl (hv _) | rfl, ?_⟩
      rw [st _ hw]
      simp [b__law_behind_t2, b__law_behind_t3, zEv, List.map_cons, List.map_nil, List.length_cons, List.length_nil, List.cons_append, List.nil_append, List.append_nil, List.getElem?_cons_zero, List.getElem?_cons_succ, List.set_cons_zero, List.set_cons_succ, ofString_inj, ofString_beq, Wd.s, at0, ew, hw', bhD, oD]
  | plus =>
    simp only
    rcases kv_num v0 with ⟨m, rfl⟩ | ⟨w, x, ew, hw', hv⟩
    · rcases kv_num v1 with ⟨n, rfl⟩ | ⟨w, x, ew, hw', hv⟩
      · refine ⟨_, rfl, ?_⟩
        rw [st _ hw]
        have b1 := b1 (.num (m + n))
        simp only [Kv.d] at b1
        simp [b__law_behind_t2, zEv, List.map_cons, List.map_nil, List.length_cons, List.length_nil, List.cons_append, List.nil_append, List.append_nil, List.getElem?_cons_zero, List.getElem?_cons_succ, List.set_cons_zero, List.set_cons_succ, ofString_inj, ofString_beq, Wd.s, at0, at1, Kv.d, b1]
      · refine ⟨(some r.a, e, 0), by cases v1 <;> first | exact absurd rfl (hv _) | rfl, ?_⟩
        rw [st _ hw]
        simp [b__law_behind_t2, zEv, List.map_cons, List.map_nil, List.length_cons, List.length_nil, List.cons_append, List.nil_append, List.append_nil, List.getElem?_cons_zero, List.getElem?_cons_succ, List.set_cons_zero, List.set_cons_succ, ofString_inj, ofString_beq, Wd.s, at0, at1, Kv.d, ew, hw', bhD, oD]
    · refine ⟨(some r.a, e, 0), by cases v0 <;> first | exact absurd rfl (hv _) | rfl, ?_⟩
      rw [st _ hw]
      simp [b__law_behind_t2, zEv, List.map_cons, List.map_nil, List.length_cons, List.length_nil, List.cons_append, List.nil_append, List.append_nil, List.getElem?_cons_zero, List.getElem?_cons_succ, List.set_cons_zero, List.set_cons_succ, ofString_inj, ofString_beq, Wd.s, at0, at1, ew, hw', bhD, oD]
theorem handed_D {k : Nat} (hk : 1 ≤ k) (S : List O) (r : Rw) (t : Tm) : Fk k ._law_handed [r.d, t.d] S = some (.lst [(handK r t).d, (handG r t).d], S) := by
  obtain ⟨k, rfl⟩ := lev hk
  rw [Fk_s]
  have c1 : ∀ a b c d : D, cutD [a, b, c, d] (some 1) (some 3) = [b, c] := fun a b c d => by simp [cutD, HT.sIx]
  unfold handK handG
  by_cases h1 : r.a % 4 = 1
  · rw [if_pos h1, if_pos h1]
    simp [bodies, b__law_handed_t1, b__law_handed_t2, zEv, List.map_cons, List.map_nil, List.length_cons, List.length_nil, List.cons_append, List.nil_append, List.append_nil, List.getElem?_cons_zero, List.getElem?_cons_succ, List.set_cons_zero, List.set_cons_succ, ofString_inj, ofString_beq, Rw.d, gdTup, gsCons, gsNil, gdName, c1, h1, at0, at1, Tm.d]
  · rw [if_neg h1, if_neg h1]
    by_cases h2 : r.a % 4 = 2
    · rw [if_pos h2, if_pos h2]
      simp [bodies, b__law_handed_t1, b__law_handed_t2, b__law_handed_t3, zEv, List.map_cons, List.map_nil, List.length_cons, List.length_nil, List.cons_append, List.nil_append, List.append_nil, List.getElem?_cons_zero, List.getElem?_cons_succ, List.set_cons_zero, List.set_cons_succ, ofString_inj, ofString_beq, Rw.d, gdTup, gsCons, gsNil, gdName, c1, h2, at0, at1, Tm.d, otherT]
    · rw [if_neg h2, if_neg h2]
      simp [bodies, b__law_handed_t1, b__law_handed_t2, b__law_handed_t3, b__law_handed_t4, zEv, List.map_cons, List.map_nil, List.length_cons, List.length_nil, List.cons_append, List.nil_append, List.append_nil, List.getElem?_cons_zero, List.getElem?_cons_succ, List.set_cons_zero, List.set_cons_succ, ofString_inj, ofString_beq, Rw.d, gdTup, gsCons, gsNil, gdName, c1, h1, h2, at0, at1, Tm.d]
theorem kv_lay : ∀ v : Kv, (py v.d).canLay0 = true
  | .num _ => by simp [Kv.d, py, pyL, PyData.canLay0, PyData.canLayAll0]; decide +kernel
  | .code fn _ => by cases fn <;> (simp [Kv.d, py, pyL, PyData.canLay0, PyData.canLayAll0, wdC]; decide +kernel)
  | .codeP fn _ _ v => by have := kv_lay v; cases fn <;> (simp [Kv.d, py, pyL, PyData.canLay0, PyData.canLayAll0, wdC, this]; decide +kernel)
  | .fin => by simp [Kv.d, py, pyL, PyData.canLay0, PyData.canLayAll0]; decide +kernel
theorem dEq_n0 (v : Kv) (S : List O) : dEq 64 v.d (.tup [.str "num", .int 0]) S = some (.bl (isN0 (some v))) := by
  have h1 := kv_lay v
  have h2 : (py (.tup [.str "num", .int 0])).canLay0 = true := by simp [py, pyL, PyData.canLay0, PyData.canLayAll0]; decide +kernel
  have h3 : (py (.tup [.str "num", .int 0])).depth ≤ 64 := by simp [py, pyL, PyData.depth, PyData.depthAll]
  have e1 : dEqv 64 S v.d (.tup [.str "num", .int 0]) = if (py v.d).canLay0 = true ∧ (py (.tup [.str "num", .int 0])).canLay0 = true ∧ min (py v.d).depth (py (.tup [.str "num", .int 0])).depth ≤ 64 then some (PyData.eqv (py v.d) (py (.tup [.str "num", .int 0]))) else none := by
    cases v <;> rfl
  unfold dEq
  rw [e1, if_pos ⟨h1, h2, by omega⟩]
  show some (D.bl _) = _
  congr 2
  cases v with
  | num n => simp [Kv.d, py, pyL, PyData.eqv, PyData.eqvAll, isN0]
  | code fn a => simp [Kv.d, py, pyL, PyData.eqv, PyData.eqvAll, isN0]
  | codeP fn a b v => simp [Kv.d, py, pyL, PyData.eqv, PyData.eqvAll, isN0]
  | fin => simp [Kv.d, py, pyL, PyData.eqv, PyData.eqvAll, isN0]
theorem picked_D {k : Nat} (hk : 2 ≤ k) (S : List O) {r : Rw} {e : Kn} (s : Sk7 e r.s0) (t : Tm) : Fk k ._law_picked [r.d, t.d, .dic (kks e)] S = some ((if isN0 (meanK r.s0 e) = true then Tm.pick r.a r.s0 t otherT else .pick r.a r.s0 otherT t).d, S) := by
  obtain ⟨k, rfl⟩ : ∃ j, k = j + 1 := ⟨k - 1, by omega⟩
  obtain ⟨v0, m0, f0, c0⟩ := lmeant_D (k := k) (by omega) S s
  have q := dEq_n0 v0 S
  rw [m0, Fk_s]
  cases h : isN0 (some v0) with
  | true =>
    rw [h] at q
    simp [bodies, b__law_picked_t1, zEv, List.map_cons, List.map_nil, List.length_cons, List.length_nil, List.cons_append, List.nil_append, List.append_nil, List.getElem?_cons_zero, List.getElem?_cons_succ, List.set_cons_zero, List.set_cons_succ, ofString_inj, ofString_beq, Rw.d, at0, at1, at3, c0, q, Tm.d, otherT]
  | false =>
    rw [h] at q
    simp [bodies, b__law_picked_t1, b__law_picked_t2, zEv, List.map_cons, List.map_nil, List.length_cons, List.length_nil, List.cons_append, List.nil_append, List.append_nil, List.getElem?_cons_zero, List.getElem?_cons_succ, List.set_cons_zero, List.set_cons_succ, ofString_inj, ofString_beq, Rw.d, at0, at1, at3, c0, q, Tm.d, otherT]
theorem held_term_D {k : Nat} (hk : 2 ≤ k) (S : List O) {r : Rw} {e : Kn} (he : Kok e) (t : Tm) : Fk k ._law_held_term [r.d, t.d, .dic (kks e)] S = some ((if r.w.s = "held last" then Tm.lt "H1" (.last r.n0 t) (.lt (trnd r e) r.s1 (.leave (.name "H1") r.s0)) else .lt "H1" (.thn r.n0 r.n1 t) (.lt (trnd r e) r.s1 (.pass (.name "H1") r.s0 .fin))).d, S) := by
  obtain ⟨k, rfl⟩ : ∃ j, k = j + 1 := ⟨k - 1, by omega⟩
  have t1 := turned_D (k := k) (by omega) S r he
  simp only [Rw.d] at t1
  rw [Fk_s]
  by_cases h : r.w.s = "held last"
  · rw [if_pos h]
    rw [h] at t1
    simp [bodies, b__law_held_term_t1, b__law_held_term_t2, b__law_held_term_t3, b__law_held_term_t4, zEv, List.map_cons, List.map_nil, List.length_cons, List.length_nil, List.cons_append, List.nil_append, List.append_nil, List.getElem?_cons_zero, List.getElem?_cons_succ, List.set_cons_zero, List.set_cons_succ, ofString_inj, ofString_beq, Rw.d, gdTup, gsCons, gsNil, gdName, at0, at1, h, t1, Tm.d]
  · rw [if_neg h]
    simp [bodies, b__law_held_term_t1, b__law_held_term_t2, b__law_held_term_t3, b__law_held_term_t4, zEv, List.map_cons, List.map_nil, List.length_cons, List.length_nil, List.cons_append, List.nil_append, List.append_nil, List.getElem?_cons_zero, List.getElem?_cons_succ, List.set_cons_zero, List.set_cons_succ, ofString_inj, ofString_beq, Rw.d, gdTup, gsCons, gsNil, gdName, at0, at1, h, t1, Tm.d]
theorem term_D {k : Nat} (hk : 3 ≤ k) (S : List O) {r : Rw} {e : Kn} (g : Gd7 r (trnd r e) e) (he : Kok e) (t : Tm) : Fk k ._law_term [r.d, t.d, .dic (kks e)] S = some ((tmOf r (trnd r e) t e).d, S) := by
  obtain ⟨k, rfl⟩ : ∃ j, k = j + 1 := ⟨k - 1, by omega⟩
  have hh := held_term_D (k := k) (by omega) S (r := r) he t
  have hp := picked_D (k := k) (by omega) S g.s0 t
  have hd := handed_D (k := k) (by omega) S r t
  have st : ∀ w, r.w = w → Fk (k + 1) ._law_term [r.d, t.d, .dic (kks e)] S = gcK S.length (fnK (b__law_term_t2 (Fk k) [some r.d, some t.d, some (.dic (kks e)), some (.str w.s), some (.int r.a), some (.lst [.str r.n0, .str r.n1]), some (.lst [r.s0.d, r.s1.d]), some (handK r t).d, some (handG r t).d] S)) := fun w hw => by
    subst hw
    rw [Fk_s]
    have e0 : gdTup 4 (gsCons (gdName 3) (gsCons (gdName 4) (gsCons (gdName 5) (gsCons (gdName 6) gsNil)))) r.d [some r.d, some t.d, some (.dic (kks e)), none, none, none, none, none, none] = some [some r.d, some t.d, some (.dic (kks e)), some (.str r.w.s), some (.int r.a), some (.lst [.str r.n0, .str r.n1]), some (.lst [r.s0.d, r.s1.d]), none, none] := by
      simp [Rw.d, gdTup, gsCons, gsNil, gdName]
    simp [bodies, b__law_term_t1, zEv, List.map_cons, List.map_nil, List.length_cons, List.length_nil, List.cons_append, List.nil_append, List.append_nil, List.getElem?_cons_zero, List.getElem?_cons_succ, List.set_cons_zero, List.set_cons_succ, ofString_inj, ofString_beq, e0, hd, gdLst, gsCons, gsNil, gdName]
  unfold tmOf
  cases hw : r.w with
  | hthn =>
    rw [st _ hw]
    rw [if_neg (by rw [hw]; decide +kernel)] at hh
    simp [b__law_term_t2, zEv, List.map_cons, List.map_nil, List.length_cons, List.length_nil, List.cons_append, List.nil_append, List.append_nil, List.getElem?_cons_zero, List.getElem?_cons_succ, List.set_cons_zero, List.set_cons_succ, ofString_inj, ofString_beq, Wd.s, dIn_two, hh]
  | hlast =>
    rw [st _ hw]
    rw [if_pos (by rw [hw]; rfl)] at hh
    simp [b__law_term_t2, zEv, List.map_cons, List.map_nil, List.length_cons, List.length_nil, List.cons_append, List.nil_append, List.append_nil, List.getElem?_cons_zero, List.getElem?_cons_succ, List.set_cons_zero, List.set_cons_succ, ofString_inj, ofString_beq, Wd.s, dIn_two, hh]
  | plus =>
    rw [st _ hw]
    simp [b__law_term_t2, b__law_term_t3, zEv, List.map_cons, List.map_nil, List.length_cons, List.length_nil, List.cons_append, List.nil_append, List.append_nil, List.getElem?_cons_zero, List.getElem?_cons_succ, List.set_cons_zero, List.set_cons_succ, ofString_inj, ofString_beq, Wd.s, dIn_two, at0, at1, Tm.d]
  | call =>
    rw [st _ hw]
    simp [b__law_term_t2, b__law_term_t3, zEv, List.map_cons, List.map_nil, List.length_cons, List.length_nil, List.cons_append, List.nil_append, List.append_nil, List.getElem?_cons_zero, List.getElem?_cons_succ, List.set_cons_zero, List.set_cons_succ, ofString_inj, ofString_beq, Wd.s, dIn_two, at0, at1, Tm.d]
  | pick =>
    rw [st _ hw]
    simp [b__law_term_t2, b__law_term_t3, b__law_term_t4, zEv, List.map_cons, List.map_nil, List.length_cons, List.length_nil, List.cons_append, List.nil_append, List.append_nil, List.getElem?_cons_zero, List.getElem?_cons_succ, List.set_cons_zero, List.set_cons_succ, ofString_inj, ofString_beq, Wd.s, dIn_two, hp]
  | ask =>
    simp only
    by_cases h : r.a % 4 = 1
    · rw [if_pos h, st _ hw]
      simp [b__law_term_t2, b__law_term_t3, b__law_term_t4, b__law_term_t5, zEv, List.map_cons, List.map_nil, List.length_cons, List.length_nil, List.cons_append, List.nil_append, List.append_nil, List.getElem?_cons_zero, List.getElem?_cons_succ, List.set_cons_zero, List.set_cons_succ, ofString_inj, ofString_beq, Wd.s, dIn_two, h, Tm.d]
    · rw [if_neg h, st _ hw]
      simp [b__law_term_t2, b__law_term_t3, b__law_term_t4, b__law_term_t5, zEv, List.map_cons, List.map_nil, List.length_cons, List.length_nil, List.cons_append, List.nil_append, List.append_nil, List.getElem?_cons_zero, List.getElem?_cons_succ, List.set_cons_zero, List.set_cons_succ, ofString_inj, ofString_beq, Wd.s, dIn_two, h, Tm.d]
  | shut =>
    rw [st _ hw]
    simp [b__law_term_t2, b__law_term_t3, b__law_term_t4, b__law_term_t5, b__law_term_t6, zEv, List.map_cons, List.map_nil, List.length_cons, List.length_nil, List.cons_append, List.nil_append, List.append_nil, List.getElem?_cons_zero, List.getElem?_cons_succ, List.set_cons_zero, List.set_cons_succ, ofString_inj, ofString_beq, Wd.s, dIn_two, at0, Tm.d]
  | leave =>
    rw [st _ hw]
    simp [b__law_term_t2, b__law_term_t3, b__law_term_t4, b__law_term_t5, b__law_term_t6, b__law_term_t7, zEv, List.map_cons, List.map_nil, List.length_cons, List.length_nil, List.cons_append, List.nil_append, List.append_nil, List.getElem?_cons_zero, List.getElem?_cons_succ, List.set_cons_zero, List.set_cons_succ, ofString_inj, ofString_beq, Wd.s, dIn_two, at0, Tm.d]
  | pass =>
    rw [st _ hw]
    simp [b__law_term_t2, b__law_term_t3, b__law_term_t4, b__law_term_t5, b__law_term_t6, b__law_term_t7, b__law_term_t8, zEv, List.map_cons, List.map_nil, List.length_cons, List.length_nil, List.cons_append, List.nil_append, List.append_nil, List.getElem?_cons_zero, List.getElem?_cons_succ, List.set_cons_zero, List.set_cons_succ, ofString_inj, ofString_beq, Wd.s, dIn_two, at0, Tm.d]
  | lt =>
    rw [st _ hw]
    simp [b__law_term_t2, b__law_term_t3, b__law_term_t4, b__law_term_t5, b__law_term_t6, b__law_term_t7, b__law_term_t8, b__law_term_t9, zEv, List.map_cons, List.map_nil, List.length_cons, List.length_nil, List.cons_append, List.nil_append, List.append_nil, List.getElem?_cons_zero, List.getElem?_cons_succ, List.set_cons_zero, List.set_cons_succ, ofString_inj, ofString_beq, Wd.s, dIn_two, at0, Tm.d]
theorem end_D {k : Nat} (hk : 1 ≤ k) (S : List O) {v : Kv} {r : Rs} (h : ansK v = some r) : Fk k ._law_end [v.d] S = some (r.d, S) := by
  obtain ⟨k, rfl⟩ := lev hk
  rw [Fk_s]
  cases v with
  | num n => cases h; simp [bodies, zEv, List.map_cons, List.map_nil, List.length_cons, List.length_nil, List.cons_append, List.nil_append, List.append_nil, List.getElem?_cons_zero, List.getElem?_cons_succ, List.set_cons_zero, List.set_cons_succ, ofString_inj, ofString_beq, Kv.d, at0, at1, Rs.d]
  | code fn a => cases fn <;> cases h <;> simp [bodies, zEv, List.map_cons, List.map_nil, List.length_cons, List.length_nil, List.cons_append, List.nil_append, List.append_nil, List.getElem?_cons_zero, List.getElem?_cons_succ, List.set_cons_zero, List.set_cons_succ, ofString_inj, ofString_beq, Kv.d, at0, at1, at2, Rs.d, wdC]
  | codeP fn a b v => cases fn <;> cases h <;> simp [bodies, zEv, List.map_cons, List.map_nil, List.length_cons, List.length_nil, List.cons_append, List.nil_append, List.append_nil, List.getElem?_cons_zero, List.getElem?_cons_succ, List.set_cons_zero, List.set_cons_succ, ofString_inj, ofString_beq, Kv.d, at0, at1, at2, Rs.d, wdC]
  | fin => simp [ansK] at h
def Kv.live : Kv → Bool
  | .fin => false
  | _ => true
def usable (e : Kn) : Kn := e.filter fun p => p.2.live
theorem hd1_kv (v : Kv) : hd1 "end" v.d = some v.live := by
  cases v with
  | num n => exact congrArg some (show (!decide _) = _ by rw [decide_eq_false (by decide +kernel)]; rfl)
  | code fn a => exact congrArg some (show (!decide _) = _ by rw [decide_eq_false (by decide +kernel)]; rfl)
  | codeP fn a b v => exact congrArg some (show (!decide _) = _ by rw [decide_eq_false (by decide +kernel)]; rfl)
  | fin => exact congrArg some (by decide +kernel)
theorem kget_of {x : Str} {v : Kv} : ∀ {e : Kn}, (knm e).Nodup → (x, v) ∈ e → kget e x = some v
  | [], _, h => by simp at h
  | (y, w) :: e, hn, h => by
    simp only [knm, List.map_cons, List.nodup_cons] at hn
    simp only [kget]
    rcases List.mem_cons.mp h with h | h
    · cases h; rw [if_pos rfl]
    · have : ¬ y = x := fun z => hn.1 (List.mem_map.mpr ⟨(x, v), h, z.symm⟩)
      rw [if_neg this]
      exact kget_of hn.2 h
theorem usb_D {e : Kn} (hn : (knm e).Nodup) : ∀ r : Kn, (∀ p ∈ r, p ∈ e) → usbD "end" (kks e) (kks r) = some ((r.filter fun p => p.2.live).map fun p => D.tup [.str p.1, p.2.d])
  | [], _ => rfl
  | (x, v) :: r, h => by
    have h1 := kks_val x e
    rw [kget_of hn (h _ List.mem_cons_self)] at h1
    show (valD (kks e) (.inr x)).bind _ = _
    rw [h1]
    simp only [Option.map_some, Option.bind_some, hd1_kv]
    have ih := usb_D hn r fun p hp => h p (List.mem_cons_of_mem _ hp)
    simp only [kks] at ih ⊢
    rw [ih]
    cases hv : v.live with
    | true => simp [hv, kD]
    | false => simp [hv]
theorem prs_D : ∀ r : Kn, prsD (r.map fun p => D.tup [.str p.1, p.2.d]) = some (kks r)
  | [] => rfl
  | (x, v) :: r => by
    show (dK (.str x)).bind _ = _
    show (prsD (r.map fun p => D.tup [.str p.1, p.2.d])).map _ = _
    rw [prs_D r]
    rfl
theorem merge_D : ∀ (r acc : Kn), (knm acc ++ knm r).Nodup → mergeD (kks acc) (kks r) = kks (acc ++ r)
  | [], acc, _ => by simp [kks, mergeD_n]
  | (x, v) :: r, acc, h => by
    show mergeD (kks acc) ((Sum.inr x, v.d) :: kks r) = _
    have hn : (knm acc).Nodup := (List.nodup_append.mp h).1
    have hx : x ∉ knm acc := fun z => by
      have := (List.nodup_append.mp h).2.2 x z x (by simp [knm])
      exact this rfl
    have e1 : kset acc x v = acc ++ [(x, v)] := by
      clear h hn
      induction acc with
      | nil => rfl
      | cons p acc ih =>
        obtain ⟨y, w⟩ := p
        simp only [knm, List.map_cons, List.mem_cons, not_or] at hx
        have : ¬ y = x := fun z => hx.1 z.symm
        simp only [kset, if_neg this, List.cons_append]
        rw [ih hx.2]
    rw [mergeD_c, kks_put x v hn, e1, merge_D r (acc ++ [(x, v)]) (by simpa [knm, List.append_assoc] using h)]
    simp
theorem ddPairs_u {g : A} {δ : Sl} {S : List O} : ddPairs g δ S = dbK bdPairs (g δ S) := by
  unfold ddPairs ddBi
  cases g δ S with
  | none => rfl
  | some p =>
    obtain ⟨ds, S1⟩ := p
    show ((bdPairs ds S1).bind _) = dbK2 S1 (bdPairs ds S1)
    cases bdPairs ds S1 <;> rfl
theorem usable_nodup {e : Kn} (hn : (knm e).Nodup) : (knm (usable e)).Nodup := by
  unfold knm usable
  exact List.Nodup.sublist (List.Sublist.map _ List.filter_sublist) hn
theorem usable_D {k : Nat} (hk : 1 ≤ k) (S : List O) {e : Kn} (he : Kok e) : Fk k ._law_usable [.dic (kks e)] S = some (.dic (kks (usable e)), S) := by
  obtain ⟨k, rfl⟩ := lev hk
  rw [Fk_s]
  have u := usb_D he.1 e fun p h => h
  have q : aUsb 0 1 "end" [some (.dic (kks e)), none] S = some ((usable e).map fun p => D.tup [.str p.1, p.2.d], S) := by
    show (if _ then _ else _) = _
    rw [if_pos ⟨by rw [kks_len]; have := he.2.1; omega, Nat.lt_succ_self 1⟩, u]
    rfl
  have p : bdPairs [.lst ((usable e).map fun p => D.tup [.str p.1, p.2.d])] S = some (kks (usable e)) := by
    show (prsD _).map _ = _
    rw [prs_D]
    have := merge_D (usable e) [] (by simpa [knm] using usable_nodup he.1)
    simpa [kks] using this
  simp [bodies, zEv, List.map_cons, List.map_nil, List.length_cons, List.length_nil, List.cons_append, List.nil_append, List.append_nil, List.getElem?_cons_zero, List.getElem?_cons_succ, List.set_cons_zero, List.set_cons_succ, ofString_inj, ofString_beq, ddPairs_u, q, p]
theorem usable_get {e : Kn} (he : Kok e) {x : Str} {v : Kv} (h : kget (usable e) x = some v) : kget e x = some v ∧ v ≠ .fin := by
  have key : ∀ {e : Kn}, kget e x = some v → (x, v) ∈ e := fun {e} => by
    induction e with
    | nil => intro h; simp [kget] at h
    | cons p e ih =>
      obtain ⟨y, w⟩ := p
      intro h
      simp only [kget] at h
      by_cases q : y = x
      · rw [if_pos q] at h; cases h; rw [q]; exact List.mem_cons_self
      · rw [if_neg q] at h; exact List.mem_cons_of_mem _ (ih h)
  have h1 := List.mem_filter.mp (key h)
  refine ⟨kget_of he.1 h1.1, fun z => ?_⟩
  rw [z] at h1
  simp [Kv.live] at h1
theorem usable_ok {e : Kn} (he : Kok e) : Kok (usable e) := by
  refine ⟨usable_nodup he.1, Nat.le_trans (List.length_filter_le _ _) he.2.1, fun x hx => ?_⟩
  obtain ⟨p, hp, e1⟩ := List.mem_map.mp hx
  exact he.2.2 x (List.mem_map.mpr ⟨p, (List.mem_filter.mp hp).1, e1⟩)
/-! ## k07: what is drawn, by data -/
def fr7 (x : Str) : Prop := x ≠ "other" ∧ x ≠ "H1" ∧ PySem.PyData.strOk x = true
theorem ok_ofString (s : String) : PySem.PyData.strOk (Str.ofString s) = true := by
  unfold PySem.PyData.strOk
  rw [Str.ofString_eq_toList, Array.all_eq_true']
  intro c hc
  rw [List.mem_toArray] at hc
  obtain ⟨ch, _, rfl⟩ := List.mem_map.mp hc
  simp only [decide_eq_true_eq]
  have := ch.valid
  have : ch.toNat < 1114112 := by
    have h2 := ch.valid
    unfold UInt32.isValidChar Nat.isValidChar at h2
    unfold Char.toNat
    omega
  exact this
theorem ok_app {x y : Str} (hx : PySem.PyData.strOk x = true) (hy : PySem.PyData.strOk y = true) : PySem.PyData.strOk (x ++ y) = true := by
  unfold PySem.PyData.strOk at *
  show (x.cps ++ y.cps).all _ = true
  rw [Array.all_append, hx, hy]
  rfl
theorem cat_D (l : Str) (hl : l.length ≤ 1) {i : Int} (h0 : 0 ≤ i) (h1 : i < 1000) (S : List O) : bStrI [.int i] S = some (.str (Str.ofString i.repr)) ∧ l.length + (Str.ofString i.repr).length ≤ sizeLine := by
  have hlog : i.natAbs.log2 < 1920 := by
    by_cases hz : i.natAbs = 0
    · rw [hz]; decide
    · have h1 : Nat.log2 i.natAbs < 30 := (Nat.log2_lt hz).mpr (by omega)
      omega
  have hlen : (Str.ofString (toString i)).length ≤ 10 := toString_length_le h0 (by decide) (by omega)
  have hlen : (Str.ofString i.repr).length ≤ 10 := hlen
  refine ⟨by rw [bStrI_1, if_pos hlog]; rfl, ?_⟩
  rw [sizeLine_eq]; omega
theorem head_ne {l y : Str} {c : Nat} (hl : l.cps.toList = [c]) (hy : y.cps.toList[0]? ≠ some c) (s : Str) : l ++ s ≠ y := fun z => by
  have := congrArg (fun x : Str => x.cps.toList[0]?) z
  simp only [app_cps, hl] at this
  exact hy this.symm
theorem fr_V (i : Int) : fr7 (("V" : Str) ++ Str.ofString i.repr) :=
  ⟨head_ne (c := 86) (by decide +kernel) (by decide +kernel) _, head_ne (c := 86) (by decide +kernel) (by decide +kernel) _, ok_app (by decide +kernel) (ok_ofString _)⟩
theorem fr_K (i : Int) : fr7 (("K" : Str) ++ Str.ofString i.repr) :=
  ⟨head_ne (c := 75) (by decide +kernel) (by decide +kernel) _, head_ne (c := 75) (by decide +kernel) (by decide +kernel) _, ok_app (by decide +kernel) (ok_ofString _)⟩
theorem fresh_D {k : Nat} (hk : 1 ≤ k) (S : List O) (m : Int) : ∃ x, fr7 x ∧ Fk k ._law_fresh [.int m] S = some (.str x, S) := by
  obtain ⟨k, rfl⟩ := lev hk
  rw [Fk_s]
  obtain ⟨a1, a2⟩ := cat_D "V" (by decide +kernel) (i := m % 4) (Int.emod_nonneg _ (by decide)) (by have := Int.emod_lt_of_pos m (b := 4) (by decide); omega) S
  obtain ⟨b1, b2⟩ := cat_D "K" (by decide +kernel) (i := m % 999) (Int.emod_nonneg _ (by decide)) (by have := Int.emod_lt_of_pos m (b := 999) (by decide); omega) S
  obtain ⟨d, h1, h2⟩ := atI_in (xs := [D.str "x", .str "y", .str (("V" : Str) ++ Str.ofString (m % 4).repr), .str "ab", .str (("K" : Str) ++ Str.ofString (m % 999).repr)]) (i := m / 7 % 5) (Int.emod_nonneg _ (by decide)) (by have := Int.emod_lt_of_pos (m / 7) (b := 5) (by decide); simpa using this)
  have hd : ∃ x, d = .str x ∧ fr7 x := by
    simp only [List.mem_cons, List.not_mem_nil, or_false] at h2
    rcases h2 with h | h | h | h | h
    · exact ⟨_, h, by refine ⟨?_, ?_, ?_⟩ <;> decide +kernel⟩
    · exact ⟨_, h, by refine ⟨?_, ?_, ?_⟩ <;> decide +kernel⟩
    · exact ⟨_, h, fr_V _⟩
    · exact ⟨_, h, by refine ⟨?_, ?_, ?_⟩ <;> decide +kernel⟩
    · exact ⟨_, h, fr_K _⟩
  obtain ⟨x, rfl, hx⟩ := hd
  refine ⟨x, hx, ?_⟩
  simp [bodies, zEv, List.map_cons, List.map_nil, List.length_cons, List.length_nil, List.cons_append, List.nil_append, List.append_nil, List.getElem?_cons_zero, List.getElem?_cons_succ, List.set_cons_zero, List.set_cons_succ, ofString_inj, ofString_beq, a1, a2, b1, b2, h1]
theorem strs_nil {sc : List Str} (h : ∀ x ∈ sc, PySem.PyData.strOk x = true) (S : List O) : dNe 64 (.lst (sc.map D.str)) (.lst []) S = some (.bl (!sc.isEmpty)) := by
  have e : ∀ sc : List Str, (∀ x ∈ sc, PySem.PyData.strOk x = true) → PyData.canLayAll0 (pyL (sc.map D.str)) = true := by
    intro sc
    induction sc with
    | nil => intro _; rfl
    | cons x sc ih =>
      intro h
      simp only [List.map_cons, pyL, py, PyData.canLayAll0, PyData.canLay0, Bool.and_eq_true]
      exact ⟨h x List.mem_cons_self, ih fun y hy => h y (List.mem_cons_of_mem _ hy)⟩
  unfold dNe dEqv
  simp only [pyS, py, PyData.canLay0, e sc h, pyL, PyData.canLayAll0, PyData.depth, PyData.depthAll]
  rw [if_pos ⟨trivial, trivial, by omega⟩]
  cases sc <;> first | rfl | simp [PyData.eqv, PyData.eqvAll, pyL]
/-- all of what is known is there to be used -/
def Live (u : Kn) : Prop := ∀ x ∈ knm u, ∃ v, kget u x = some v ∧ v ≠ .fin
theorem usable_live {e : Kn} (he : Kok e) : Live (usable e) := fun x hx => by
  obtain ⟨v, hv⟩ := kget_mem hx
  exact ⟨v, hv, (usable_get he hv).2⟩
theorem srt_mem {u : Kn} {x : Str} (h : x ∈ sortS (knm u)) : x ∈ knm u := (sortS_perm (knm u)).mem_iff.mp h
theorem pick_D (xs : List Str) (hx : xs ≠ []) (i : Int) (S : List O) : ∃ x, x ∈ xs ∧ bLen [.lst (xs.map D.str)] S = some (.int xs.length) ∧ dInt gMod (.int i) (.int xs.length) S = some (.int (i % xs.length)) ∧ atI (xs.map D.str) (i % xs.length) = some (.str x) := by
  have hp : (0 : Int) < xs.length := by
    cases xs with
    | nil => exact absurd rfl hx
    | cons _ _ => rw [List.length_cons]; omega
  obtain ⟨x, h1, h2⟩ := atI_in (xs := xs) (i := i % xs.length) (Int.emod_nonneg _ (by omega)) (Int.emod_lt_of_pos _ hp)
  refine ⟨x, h2, by rw [bLen_l, List.length_map], dMod_i hp, by rw [atI_map, h1]; rfl⟩
def isSim : Tm → Prop
  | .num _ | .name _ => True
  | _ => False
theorem simple_D {k : Nat} (hk : 1 ≤ k) (S : List O) {u : Kn} (hu : Kok u) (hl : Live u) (m : Int) : ∃ t, Sk7 u t ∧ Fk k ._law_simple_by [.dic (kks u), .int m] S = some (t.d, S) := by
  obtain ⟨k, rfl⟩ := lev hk
  have k1 := keys_D S u
  have k2 := sort_D S hu
  have k3 := strs_nil (sc := sortS (knm u)) (fun x hx => hu.2.2 x (srt_mem hx)) S
  by_cases hn : sortS (knm u) = []
  · refine ⟨.num (m / 3 % 7 - 3), .num _, ?_⟩
    rw [Fk_s]
    rw [hn] at k2 k3
    simp only [List.map_nil, List.isEmpty_nil, Bool.not_true] at k2 k3
    simp [bodies, b__law_simple_by_t1, b__law_simple_by_t2, zEv, List.map_cons, List.map_nil, List.length_cons, List.length_nil, List.cons_append, List.nil_append, List.append_nil, List.getElem?_cons_zero, List.getElem?_cons_succ, List.set_cons_zero, List.set_cons_succ, ofString_inj, ofString_beq, k1, k2, k3, Tm.d, dSub_i]
  · have k3' : dNe 64 (.lst ((sortS (knm u)).map D.str)) (.lst []) S = some (.bl true) := by
      rw [k3]
      cases h : sortS (knm u) with
      | nil => exact absurd h hn
      | cons _ _ => rfl
    by_cases hm : 0 < m % 3
    · obtain ⟨x, h1, h2, h3, h4⟩ := pick_D (sortS (knm u)) hn (m / 3) S
      obtain ⟨v, hv, hf⟩ := hl x (srt_mem h1)
      refine ⟨.name x, .name hv hf, ?_⟩
      rw [Fk_s]
      rw [bLen_l, List.length_map] at h2
      simp [bodies, b__law_simple_by_t1, zEv, List.map_cons, List.map_nil, List.length_cons, List.length_nil, List.cons_append, List.nil_append, List.append_nil, List.getElem?_cons_zero, List.getElem?_cons_succ, List.set_cons_zero, List.set_cons_succ, ofString_inj, ofString_beq, k1, k2, k3', hm, h3, h4, Tm.d]
    · refine ⟨.num (m / 3 % 7 - 3), .num _, ?_⟩
      rw [Fk_s]
      simp [bodies, b__law_simple_by_t1, b__law_simple_by_t2, zEv, List.map_cons, List.map_nil, List.length_cons, List.length_nil, List.cons_append, List.nil_append, List.append_nil, List.getElem?_cons_zero, List.getElem?_cons_succ, List.set_cons_zero, List.set_cons_succ, ofString_inj, ofString_beq, k1, k2, k3', hm, Tm.d, dSub_i]
theorem lcD_str {gd : G} {c : T} {e : E} {δ : Sl} {S : List O} (p : Str → Bool) : ∀ xs : List Str, (∀ x ∈ xs, ∃ δ1, gd (.str x) δ = some δ1 ∧ c δ1 S = some (p x, S) ∧ e δ1 S = some (.str x, S)) → lcD gd c e δ (xs.map D.str) S = some ((xs.filter p).map D.str, S)
  | [], _ => rfl
  | x :: xs, h => by
    obtain ⟨δ1, h1, h2, h3⟩ := h x List.mem_cons_self
    have ih := lcD_str (e := e) (c := c) (gd := gd) (δ := δ) (S := S) p xs fun y hy => h y (List.mem_cons_of_mem _ hy)
    rw [List.map_cons, lcD_c, h1]
    cases hp : p x with
    | true =>
      rw [hp] at h2
      rw [lcK2_1, h2, lcK3_1, h3, lcK4_1, ih, lcK5_1]
      simp [hp]
    | false =>
      rw [hp] at h2
      rw [lcK2_1, h2, lcK3_2, ih]
      simp [hp]
/-- a code, over what is known -/
def isNumK : Option Kv → Bool
  | some (.num _) => true
  | _ => false
theorem kw_D (u : Kn) {x : Str} {v : Kv} (h : kget u x = some v) : valD (kks u) (.inr x) = some v.d := by rw [kks_val, h]; rfl
theorem notin3 (x : Str) (S : List O) : dIn true (.str x) (.lst [.str "x", .str "k", .str "g"]) S = some (.bl (!((("x" : Str) == x) || ((("k" : Str) == x) || (("g" : Str) == x))))) := by
  simp [dIn, seqA, seqL, flatD, eqF]
theorem code_D {k : Nat} (hk : 1 ≤ k) (S : List O) {u : Kn} (hu : Kok u) (hl : Live u) (m : Int) : ∃ t, Sk7 u t ∧ Fk k ._law_code_by [.dic (kks u), .int m] S = some (t.d, S) := by
  obtain ⟨k, rfl⟩ := lev hk
  have k1 := keys_D S u
  have k2 := sort_D S hu
  -- the names of numbers
  have hf : ∃ xs : List Str, (∀ x ∈ xs, x ∈ knm u ∧ x ≠ "x" ∧ x ≠ "k" ∧ x ≠ "g") ∧ lcD (gdName 5) (tfAnd (tOf (eOp (dEq 64) (eOp dIx (eOp dGet (eVar 0) (eVar 5)) (eC (.int 0))) (eC (.str "num")))) (tOf (eOp (dIn true) (eVar 5) (eL (lDisp (aCons (eC (.str "x")) (aCons (eC (.str "k")) (aCons (eC (.str "g")) aNil)))))))) (eVar 5) [some (.dic (kks u)), some (.int m), none, none, none, none] ((sortS (knm u)).map D.str) S = some (xs.map D.str, S) := by
    refine ⟨_, ?_, lcD_str (fun x => isNumK (kget u x) && !((("x" : Str) == x) || ((("k" : Str) == x) || (("g" : Str) == x)))) _ fun x hx => ?_⟩
    · intro x hx
      obtain ⟨h1, h2⟩ := List.mem_filter.mp hx
      simp only [Bool.and_eq_true, Bool.not_eq_true', Bool.or_eq_false_iff, beq_eq_false_iff_ne] at h2
      exact ⟨srt_mem h1, fun z => h2.2.1 z.symm, fun z => h2.2.2.1 z.symm, fun z => h2.2.2.2 z.symm⟩
    · obtain ⟨v, hv, hn⟩ := hl x (srt_mem hx)
      have kw := kw_D u hv
      have n3 := notin3 x S
      refine ⟨_, rfl, ?_, by simp [zEv, List.map_cons, List.map_nil, List.length_cons, List.length_nil, List.cons_append, List.nil_append, List.append_nil, List.getElem?_cons_zero, List.getElem?_cons_succ, List.set_cons_zero, List.set_cons_succ, ofString_inj, ofString_beq]⟩
      rcases kv_num v with ⟨n, rfl⟩ | ⟨w, r, ew, hw, hne⟩
      · simp only [Kv.d] at kw
        simp [zEv, List.map_cons, List.map_nil, List.length_cons, List.length_nil, List.cons_append, List.nil_append, List.append_nil, List.getElem?_cons_zero, List.getElem?_cons_succ, List.set_cons_zero, List.set_cons_succ, ofString_inj, ofString_beq, kw, at0, n3, hv, isNumK]
      · rw [ew] at kw
        have : isNumK (kget u x) = false := by
          rw [hv]
          cases v <;> first | exact absurd rfl (hne _) | rfl
        simp [zEv, List.map_cons, List.map_nil, List.length_cons, List.length_nil, List.cons_append, List.nil_append, List.append_nil, List.getElem?_cons_zero, List.getElem?_cons_succ, List.set_cons_zero, List.set_cons_succ, ofString_inj, ofString_beq, kw, at0, hw, this]
  obtain ⟨xs, hxs, hlc⟩ := hf
  have k3 := strs_nil (sc := xs) (fun x hx => hu.2.2 x (hxs x hx).1) S
  -- the word
  obtain ⟨fn, hfn⟩ : ∃ fn, atI [D.str "function", .str "kept"] (m % 2) = some (.str (wdC fn)) := by
    rcases (by omega : m % 2 = 0 ∨ m % 2 = 1) with h | h
    · rw [h]; exact ⟨true, rfl⟩
    · rw [h]; exact ⟨false, rfl⟩
  have hlen : ((sortS (knm u)).map D.str).length ≤ 10000000 := by rw [List.length_map, srt_len]; have := hu.2.1; omega
  have hlen' : (sortS (knm u)).length ≤ 10000000 := by rw [srt_len]; have := hu.2.1; omega
  by_cases hn : xs = []
  · subst hn
    simp only [List.map_nil, List.isEmpty_nil, Bool.not_true] at k3
    refine ⟨cdP fn (m / 2 % 10000), .cdP _ _, ?_⟩
    rw [Fk_s]
    simp [bodies, b__law_code_by_t1, b__law_code_by_t2, b__law_code_by_t3, zEv, List.map_cons, List.map_nil, List.length_cons, List.length_nil, List.cons_append, List.nil_append, List.append_nil, List.getElem?_cons_zero, List.getElem?_cons_succ, List.set_cons_zero, List.set_cons_succ, ofString_inj, ofString_beq, k1, k2, hlen', hlc, k3, hfn, cdP, Tm.d]
  · have k3' : dNe 64 (.lst (xs.map D.str)) (.lst []) S = some (.bl true) := by
      rw [k3]
      cases xs with
      | nil => exact absurd rfl hn
      | cons _ _ => rfl
    by_cases hm : 0 < m % 3
    · obtain ⟨x, h1, h2, h3, h4⟩ := pick_D xs hn (m / 3) S
      obtain ⟨v, hv, hf⟩ := hl x (hxs x h1).1
      refine ⟨cdQ fn (m / 2 % 10000) (m / 5 % 10000) x, .cdQ _ _ _ hv hf (hxs x h1).2.1 (hxs x h1).2.2.1 (hxs x h1).2.2.2, ?_⟩
      rw [Fk_s]
      simp [bodies, b__law_code_by_t1, b__law_code_by_t2, b__law_code_by_t3, zEv, List.map_cons, List.map_nil, List.length_cons, List.length_nil, List.cons_append, List.nil_append, List.append_nil, List.getElem?_cons_zero, List.getElem?_cons_succ, List.set_cons_zero, List.set_cons_succ, ofString_inj, ofString_beq, k1, k2, hlen', hlc, k3', hm, h3, h4, hfn, cdQ, Tm.d]
    · refine ⟨cdP fn (m / 2 % 10000), .cdP _ _, ?_⟩
      rw [Fk_s]
      simp [bodies, b__law_code_by_t1, b__law_code_by_t2, b__law_code_by_t3, zEv, List.map_cons, List.map_nil, List.length_cons, List.length_nil, List.cons_append, List.nil_append, List.append_nil, List.getElem?_cons_zero, List.getElem?_cons_succ, List.set_cons_zero, List.set_cons_succ, ofString_inj, ofString_beq, k1, k2, hlen', hlc, k3', hm, hfn, cdP, Tm.d]
theorem frzL_run {b : B} {i : Nat} {δ δ2 : Sl} {S : List O} {ks : List D} (h : b δ S = some (.nx δ2 (S ++ [.lst ks]))) (hi : δ2[i]? = some (some (.ref S.length))) (ok : okS S) (hs : okSl S.length i δ2 = true) (hk : okDs S.length ks = true) : sFrzL i b δ S = some (.nx (δ2.set i (some (.lst ks))) S) := by
  unfold sFrzL
  rw [h]
  simp only [Option.bind_some]
  unfold frzL
  rw [hi]
  have e1 : (S ++ [O.lst ks]).take S.length = S := by simp
  have e2 : (S ++ [O.lst ks])[S.length]? = some (.lst ks) := by simp
  simp only [e1, e2]
  rw [if_pos ⟨Nat.le_refl _, ok, hs⟩, if_pos hk]
  rfl
theorem setO_new2 (S : List O) (x y d : D) : setO (S ++ [.lst [x, y]]) (.ref S.length) (stF d 0) = some (S ++ [.lst [d, y]]) ∧ setO (S ++ [.lst [x, y]]) (.ref S.length) (stF d 1) = some (S ++ [.lst [x, d]]) := by
  unfold setO
  constructor <;> simp [stF, ixN]
theorem words_D (m c : Int) : ∃ w : Wd, atI [D.str "let", .str "pass", .str "plus", .str "pick", .str "call", .str "shut", .str "leave", .str "ask", .str "held then", .str "held last"] (m % 8 + 2 * (if c = 1 ∧ 5 < m % 8 then 1 else 0)) = some (.str w.s) := by
  have h0 := Int.emod_nonneg m (b := 8) (by decide)
  have h1 := Int.emod_lt_of_pos m (b := 8) (by decide)
  obtain ⟨d, h2, h3⟩ := atI_in (xs := [D.str "let", .str "pass", .str "plus", .str "pick", .str "call", .str "shut", .str "leave", .str "ask", .str "held then", .str "held last"]) (i := m % 8 + 2 * (if c = 1 ∧ 5 < m % 8 then 1 else 0)) (by split <;> omega) (by
    show _ < (10 : Int)
    split <;> omega)
  rw [h2]
  simp only [List.mem_cons, List.not_mem_nil, or_false] at h3
  rcases h3 with h | h | h | h | h | h | h | h | h | h <;> subst h
  · exact ⟨.lt, rfl⟩
  · exact ⟨.pass, rfl⟩
  · exact ⟨.plus, rfl⟩
  · exact ⟨.pick, rfl⟩
  · exact ⟨.call, rfl⟩
  · exact ⟨.shut, rfl⟩
  · exact ⟨.leave, rfl⟩
  · exact ⟨.ask, rfl⟩
  · exact ⟨.hthn, rfl⟩
  · exact ⟨.hlast, rfl⟩
mutual
theorem okD_le {n m : Nat} (h : n ≤ m) : ∀ {d : D}, okD n d = true → okD m d = true
  | .non, _ => by simp [okD]
  | .bl _, _ => by simp [okD]
  | .int _, _ => by simp [okD]
  | .str _, _ => by simp [okD]
  | .scr _, _ => by simp [okD]
  | .tup xs, q => by simp only [okD] at q ⊢; exact okDs_le h q
  | .lst xs, q => by simp only [okD] at q ⊢; exact okDs_le h q
  | .dic ks, q => by simp only [okD] at q ⊢; exact okKs_le h q
  | .ref j, q => by simp only [okD, decide_eq_true_eq] at q ⊢; omega
  | .tun xs, q => by simp only [okD] at q ⊢; exact okDs_le h q
  | .fn _, _ => by simp [okD]
theorem okDs_le {n m : Nat} (h : n ≤ m) : ∀ {ds : List D}, okDs n ds = true → okDs m ds = true
  | [], _ => by simp [okDs]
  | d :: ds, q => by simp only [okDs, Bool.and_eq_true] at q ⊢; exact ⟨okD_le h q.1, okDs_le h q.2⟩
theorem okKs_le {n m : Nat} (h : n ≤ m) : ∀ {ds : List (Key × D)}, okKs n ds = true → okKs m ds = true
  | [], _ => by simp [okKs]
  | (k, d) :: ds, q => by simp only [okKs, Bool.and_eq_true] at q ⊢; exact ⟨okD_le h q.1, okKs_le h q.2⟩
end
theorem okO_le {n m : Nat} {o : O} (q : okO n o = true) (h : n ≤ m) : okO m o = true := by
  cases o with
  | lst xs => exact okDs_le h q
  | dic ks => exact okKs_le h q
  | ins fs => exact okDs_le h q
structure RowOk (r : Rw) (u : Kn) : Prop where
  ne : r.n0 ≠ r.n1
  h0 : r.n0 ≠ "H1"
  h1 : r.n1 ≠ "H1"
  k0 : PySem.PyData.strOk r.n0 = true
  k1 : PySem.PyData.strOk r.n1 = true
  s0 : Sk7 u r.s0
  s1 : Sk7 u r.s1
theorem RowOk.good {r : Rw} {u : Kn} (h : RowOk r u) (hH : ("H1" : Str) ∉ knm u) : Gd7 r (trnd r u) u := ⟨h.ne, h.h0, h.h1, trnd_H1 hH, h.s0, h.s1⟩
theorem dIx_new2 (S : List O) (x y : D) : dIx (.ref S.length) (.int 0) (S ++ [.lst [x, y]]) = some x ∧ dIx (.ref S.length) (.int 1) (S ++ [.lst [x, y]]) = some y := by
  constructor
  · rw [dIx_new]; exact at0
  · rw [dIx_new]; exact at1
theorem okS_snoc {S : List O} (ok : okS S) {xs : List D} (h : okDs S.length xs = true) : okS (S ++ [.lst xs]) := by
  unfold okS at *
  rw [List.all_eq_true] at ok ⊢
  intro o ho
  rw [List.length_append]
  rcases List.mem_append.mp ho with q | q
  · exact okO_le (ok o q) (by simp)
  · rw [List.mem_singleton] at q
    rw [q]
    exact okDs_le (by simp) h
theorem oko_kks (n : Nat) (u : Kn) : okD n (.dic (kks u)) = true := by simp [okD, okK_kn]
theorem row_names {k : Nat} (hk : 1 ≤ k) (S : List O) (ok : okS S) (u : Kn) (m : Int) : ∃ n0 n1 : Str, n0 ≠ n1 ∧ n0 ≠ "H1" ∧ n1 ≠ "H1" ∧ PySem.PyData.strOk n0 = true ∧ PySem.PyData.strOk n1 = true ∧
    sFrzL 2 (sSeq (sSet 2 (eLM (lDisp (aCons (eCall 1 (Fk k ._law_fresh) (aCons (eOp (dInt gDiv) (eVar 1) (eC (.int 11))) aNil)) (aCons (eCall 1 (Fk k ._law_fresh) (aCons (eOp (dInt gDiv) (eVar 1) (eC (.int 13))) aNil)) aNil))))) (sIf (tOf (eOp (dEq 64) (eOp dIx (eVar 2) (eC (.int 0))) (eOp dIx (eVar 2) (eC (.int 1))))) (sSetIx (eC (.str "other")) (eVar 2) (eC (.int 1))) sNext))
      [some (.dic (kks u)), some (.int m), none, none, none, none, none, none] S = some (.nx [some (.dic (kks u)), some (.int m), some (.lst [.str n0, .str n1]), none, none, none, none, none] S) := by
  obtain ⟨x, hx, c1⟩ := fresh_D hk S (m / 11)
  obtain ⟨y, hy, c2⟩ := fresh_D hk S (m / 13)
  have i0 := (dIx_new2 S (.str x) (.str y)).1
  have i1 := (dIx_new2 S (.str x) (.str y)).2
  have so := (setO_new2 S (.str x) (.str y) (.str "other")).2
  have os : ∀ a b : Str, okSl S.length 2 [some (.dic (kks u)), some (.int m), some (.ref S.length), none, none, none, none, none] = true ∧ okDs S.length [.str a, .str b] = true := fun a b => by
    constructor
    · simp [okSl, List.range_succ, okK_kn, okD]
    · simp [okDs, okD]
  by_cases h : x = y
  · subst h
    refine ⟨x, "other", hx.1, hx.2.1, by decide +kernel, hx.2.2, by decide +kernel, ?_⟩
    rw [frzL_run (ks := [.str x, .str "other"]) (δ2 := [some (.dic (kks u)), some (.int m), some (.ref S.length), none, none, none, none, none]) (S := S) ?_ rfl ok (os x "other").1 (os x "other").2]
    · rfl
    · simp [zEv, List.map_cons, List.map_nil, List.length_cons, List.length_nil, List.cons_append, List.nil_append, List.append_nil, List.getElem?_cons_zero, List.getElem?_cons_succ, List.set_cons_zero, List.set_cons_succ, ofString_inj, ofString_beq, c1, c2, i0, i1, so]
  · refine ⟨x, y, h, hx.2.1, hy.2.1, hx.2.2, hy.2.2, ?_⟩
    rw [frzL_run (ks := [.str x, .str y]) (δ2 := [some (.dic (kks u)), some (.int m), some (.ref S.length), none, none, none, none, none]) (S := S) ?_ rfl ok (os x y).1 (os x y).2]
    · rfl
    · simp [zEv, List.map_cons, List.map_nil, List.length_cons, List.length_nil, List.cons_append, List.nil_append, List.append_nil, List.getElem?_cons_zero, List.getElem?_cons_succ, List.set_cons_zero, List.set_cons_succ, ofString_inj, ofString_beq, c1, c2, i0, i1, h]
theorem okDs_all (n : Nat) : ∀ (ds : List D), (∀ d ∈ ds, okD n d = true) → okDs n ds = true
  | [], _ => by simp [okDs]
  | d :: ds, h => by simp [okDs, h d List.mem_cons_self, okDs_all n ds (fun e he => h e (List.mem_cons_of_mem _ he))]
theorem gc_list {S : List O} {xs : List D} (h : okS S) (hd : okDs S.length xs = true) : gcF S.length (.ref S.length, S ++ [.lst xs]) = some (.lst xs, S) := by
  unfold gcF
  rw [if_neg (by simp)]
  have e : (S ++ [O.lst xs]).take S.length = S := by simp
  simp only [e]
  rw [if_pos (show S.all (okO S.length) = true from h)]
  simp [hd]
theorem row_some {k : Nat} (hk : 1 ≤ k) (S : List O) (ok : okS S) {u : Kn} (hu : Kok u) (hl : Live u) (m : Int) (x y : Str) : ∃ (s0 s1 : Tm) (cs : List Str), Sk7 u s0 ∧ Sk7 u s1 ∧
    sFrzL 3 (sSeq (sSet 3 (eLM (lDisp (aCons (eCall 2 (Fk k ._law_simple_by) (aCons (eVar 0) (aCons (eOp (dInt gDiv) (eVar 1) (eC (.int 17))) aNil))) (aCons (eCall 2 (Fk k ._law_simple_by) (aCons (eVar 0) (aCons (eOp (dInt gDiv) (eVar 1) (eC (.int 19))) aNil))) aNil))))) (sSeq (sIf (tfOr (tOf (eOp (dEq 64) (eOp (dInt gMod) (eOp (dInt gDiv) (eVar 1) (eC (.int 23))) (eC (.int 5))) (eC (.int 1)))) (tOf (eOp (dEq 64) (eOp (dInt gMod) (eVar 1) (eC (.int 8))) (eC (.int 5))))) (sSetIx (eCall 2 (Fk k ._law_code_by) (aCons (eVar 0) (aCons (eOp (dInt gDiv) (eVar 1) (eC (.int 29))) aNil))) (eVar 3) (eC (.int 0))) sNext) (sSeq (sSet 4 (eL (aLc (iSeq (eL (lBi blSort (aCons (eL (lBi blListD (aCons (eVar 0) aNil))) aNil)))) (gdName 7) (tOf (eOp (dEq 64) (eOp dIx (eOp dGet (eVar 0) (eVar 7)) (eC (.int 0))) (eC (.str "code")))) (eVar 7) [7]))) (sIf (tfAnd (tOf (eOp (dEq 64) (eOp (dInt gMod) (eVar 1) (eC (.int 8))) (eC (.int 4)))) (tfAnd (tOf (eOp (dNe 64) (eVar 4) (eL (lDisp aNil)))) (tOf (eOp (dCmp fun i j => decide (i > j)) (eOp (dInt gMod) (eOp (dInt gDiv) (eVar 1) (eC (.int 31))) (eC (.int 4))) (eC (.int 0)))))) (sSetIx (eTup (aCons (eC (.str "name")) (aCons (eOp dIx (eVar 4) (eOp (dInt gMod) (eOp (dInt gDiv) (eVar 1) (eC (.int 37))) (eBi bLen (aCons (eVar 4) aNil)))) aNil))) (eVar 3) (eC (.int 0))) sNext))))
      [some (.dic (kks u)), some (.int m), some (.lst [.str x, .str y]), none, none, none, none, none] S = some (.nx [some (.dic (kks u)), some (.int m), some (.lst [.str x, .str y]), some (.lst [s0.d, s1.d]), some (.lst (cs.map D.str)), none, none, none] S) := by
  obtain ⟨t0, q0, c0⟩ := simple_D hk S hu hl (m / 17)
  obtain ⟨t1, q1, c1⟩ := simple_D hk S hu hl (m / 19)
  -- the first, made and perhaps a code
  have two : ∃ s0, Sk7 u s0 ∧ ∀ b : B, sSeq (sSet 3 (eLM (lDisp (aCons (eCall 2 (Fk k ._law_simple_by) (aCons (eVar 0) (aCons (eOp (dInt gDiv) (eVar 1) (eC (.int 17))) aNil))) (aCons (eCall 2 (Fk k ._law_simple_by) (aCons (eVar 0) (aCons (eOp (dInt gDiv) (eVar 1) (eC (.int 19))) aNil))) aNil))))) (sSeq (sIf (tfOr (tOf (eOp (dEq 64) (eOp (dInt gMod) (eOp (dInt gDiv) (eVar 1) (eC (.int 23))) (eC (.int 5))) (eC (.int 1)))) (tOf (eOp (dEq 64) (eOp (dInt gMod) (eVar 1) (eC (.int 8))) (eC (.int 5))))) (sSetIx (eCall 2 (Fk k ._law_code_by) (aCons (eVar 0) (aCons (eOp (dInt gDiv) (eVar 1) (eC (.int 29))) aNil))) (eVar 3) (eC (.int 0))) sNext) b)
      [some (.dic (kks u)), some (.int m), some (.lst [.str x, .str y]), none, none, none, none, none] S = b [some (.dic (kks u)), some (.int m), some (.lst [.str x, .str y]), some (.ref S.length), none, none, none, none] (S ++ [.lst [s0.d, t1.d]]) := by
    by_cases h : m / 23 % 5 = 1 ∨ m % 8 = 5
    · obtain ⟨t2, q2, c2⟩ := code_D hk (S ++ [.lst [t0.d, t1.d]]) hu hl (m / 29)
      have so := (setO_new2 S t0.d t1.d t2.d).1
      refine ⟨t2, q2, fun b => ?_⟩
      by_cases h1 : m / 23 % 5 = 1
      · simp [zEv, List.map_cons, List.map_nil, List.length_cons, List.length_nil, List.cons_append, List.nil_append, List.append_nil, List.getElem?_cons_zero, List.getElem?_cons_succ, List.set_cons_zero, List.set_cons_succ, ofString_inj, ofString_beq, c0, c1, h1, c2, so]
      · have h2 : m % 8 = 5 := h.resolve_left h1
        simp [zEv, List.map_cons, List.map_nil, List.length_cons, List.length_nil, List.cons_append, List.nil_append, List.append_nil, List.getElem?_cons_zero, List.getElem?_cons_succ, List.set_cons_zero, List.set_cons_succ, ofString_inj, ofString_beq, c0, c1, h1, h2, c2, so]
    · have h1 : ¬ m / 23 % 5 = 1 := fun z => h (.inl z)
      have h2 : ¬ m % 8 = 5 := fun z => h (.inr z)
      exact ⟨t0, q0, fun b => by simp [zEv, List.map_cons, List.map_nil, List.length_cons, List.length_nil, List.cons_append, List.nil_append, List.append_nil, List.getElem?_cons_zero, List.getElem?_cons_succ, List.set_cons_zero, List.set_cons_succ, ofString_inj, ofString_beq, c0, c1, h1, h2]⟩
  obtain ⟨s0, qs, go⟩ := two
  have k1 := keys_D (S ++ [.lst [s0.d, t1.d]]) u
  have k2 := sort_D (S ++ [.lst [s0.d, t1.d]]) hu
  have hf : ∃ xs : List Str, (∀ x ∈ xs, x ∈ knm u) ∧ lcD (gdName 7) (tOf (eOp (dEq 64) (eOp dIx (eOp dGet (eVar 0) (eVar 7)) (eC (.int 0))) (eC (.str "code")))) (eVar 7) [some (.dic (kks u)), some (.int m), some (.lst [.str x, .str y]), some (.ref S.length), none, none, none, none] ((sortS (knm u)).map D.str) (S ++ [.lst [s0.d, t1.d]]) = some (xs.map D.str, S ++ [.lst [s0.d, t1.d]]) := by
    refine ⟨_, ?_, lcD_str (fun x => match kget u x with | some (.code _ _) => true | some (.codeP _ _ _ _) => true | _ => false) _ fun x hx => ?_⟩
    · intro x hx
      exact srt_mem (List.mem_filter.mp hx).1
    · obtain ⟨v, hv, hn⟩ := hl x (srt_mem hx)
      have kw := kw_D u hv
      refine ⟨_, rfl, ?_, by simp [zEv, List.map_cons, List.map_nil, List.length_cons, List.length_nil, List.cons_append, List.nil_append, List.append_nil, List.getElem?_cons_zero, List.getElem?_cons_succ, List.set_cons_zero, List.set_cons_succ, ofString_inj, ofString_beq]⟩
      cases v <;> (simp only [Kv.d] at kw; simp [zEv, List.map_cons, List.map_nil, List.length_cons, List.length_nil, List.cons_append, List.nil_append, List.append_nil, List.getElem?_cons_zero, List.getElem?_cons_succ, List.set_cons_zero, List.set_cons_succ, ofString_inj, ofString_beq, kw, at0, hv])
  obtain ⟨cs, hcs, hlc⟩ := hf
  have hlen' : (sortS (knm u)).length ≤ 10000000 := by rw [srt_len]; have := hu.2.1; omega
  have k3 := strs_nil (sc := cs) (fun x hx => hu.2.2 x (hcs x hx)) (S ++ [.lst [s0.d, t1.d]])
  have oks : ∀ (a b : Tm), okSl S.length 3 [some (.dic (kks u)), some (.int m), some (.lst [.str x, .str y]), some (.ref S.length), some (.lst (cs.map D.str)), none, none, none] = true ∧ okDs S.length [a.d, b.d] = true := fun a b => by
    constructor
    · have : okDs S.length (cs.map D.str) = true := okDs_all _ _ fun d hd => by
        obtain ⟨z, _, rfl⟩ := List.mem_map.mp hd
        simp [okD]
      simp [okSl, List.range_succ, okK_kn, okD, okDs, this]
    · simp [okDs, okD_tm]
  have last : ∃ s2, Sk7 u s2 ∧ (sSeq (sSet 4 (eL (aLc (iSeq (eL (lBi blSort (aCons (eL (lBi blListD (aCons (eVar 0) aNil))) aNil)))) (gdName 7) (tOf (eOp (dEq 64) (eOp dIx (eOp dGet (eVar 0) (eVar 7)) (eC (.int 0))) (eC (.str "code")))) (eVar 7) [7]))) (sIf (tfAnd (tOf (eOp (dEq 64) (eOp (dInt gMod) (eVar 1) (eC (.int 8))) (eC (.int 4)))) (tfAnd (tOf (eOp (dNe 64) (eVar 4) (eL (lDisp aNil)))) (tOf (eOp (dCmp fun i j => decide (i > j)) (eOp (dInt gMod) (eOp (dInt gDiv) (eVar 1) (eC (.int 31))) (eC (.int 4))) (eC (.int 0)))))) (sSetIx (eTup (aCons (eC (.str "name")) (aCons (eOp dIx (eVar 4) (eOp (dInt gMod) (eOp (dInt gDiv) (eVar 1) (eC (.int 37))) (eBi bLen (aCons (eVar 4) aNil)))) aNil))) (eVar 3) (eC (.int 0))) sNext))
      [some (.dic (kks u)), some (.int m), some (.lst [.str x, .str y]), some (.ref S.length), none, none, none, none] (S ++ [.lst [s0.d, t1.d]]) = some (.nx [some (.dic (kks u)), some (.int m), some (.lst [.str x, .str y]), some (.ref S.length), some (.lst (cs.map D.str)), none, none, none] (S ++ [.lst [s2.d, t1.d]])) := by
    by_cases h8 : m % 8 = 4
    · by_cases hn : cs = []
      · subst hn
        simp only [List.map_nil, List.isEmpty_nil, Bool.not_true] at k3 hlc
        exact ⟨s0, qs, by simp [zEv, List.map_cons, List.map_nil, List.length_cons, List.length_nil, List.cons_append, List.nil_append, List.append_nil, List.getElem?_cons_zero, List.getElem?_cons_succ, List.set_cons_zero, List.set_cons_succ, ofString_inj, ofString_beq, k1, k2, hlen', hlc, h8, k3]⟩
      · have k3' : dNe 64 (.lst (cs.map D.str)) (.lst []) (S ++ [.lst [s0.d, t1.d]]) = some (.bl true) := by
          rw [k3]
          cases cs with
          | nil => exact absurd rfl hn
          | cons _ _ => rfl
        by_cases hm : 0 < m / 31 % 4
        · obtain ⟨z, h1, h2, h3, h4⟩ := pick_D cs hn (m / 37) (S ++ [.lst [s0.d, t1.d]])
          obtain ⟨v, hv, hf⟩ := hl z (hcs z h1)
          have so := (setO_new2 S s0.d t1.d (.tup [.str "name", .str z])).1
          refine ⟨.name z, .name hv hf, ?_⟩
          simp [zEv, List.map_cons, List.map_nil, List.length_cons, List.length_nil, List.cons_append, List.nil_append, List.append_nil, List.getElem?_cons_zero, List.getElem?_cons_succ, List.set_cons_zero, List.set_cons_succ, ofString_inj, ofString_beq, k1, k2, hlen', hlc, h8, k3', hm, h3, h4, so, Tm.d]
        · exact ⟨s0, qs, by simp [zEv, List.map_cons, List.map_nil, List.length_cons, List.length_nil, List.cons_append, List.nil_append, List.append_nil, List.getElem?_cons_zero, List.getElem?_cons_succ, List.set_cons_zero, List.set_cons_succ, ofString_inj, ofString_beq, k1, k2, hlen', hlc, h8, k3', hm]⟩
    · exact ⟨s0, qs, by simp [zEv, List.map_cons, List.map_nil, List.length_cons, List.length_nil, List.cons_append, List.nil_append, List.append_nil, List.getElem?_cons_zero, List.getElem?_cons_succ, List.set_cons_zero, List.set_cons_succ, ofString_inj, ofString_beq, k1, k2, hlen', hlc, h8]⟩
  obtain ⟨s2, q2, hlast⟩ := last
  refine ⟨s2, t1, cs, q2, q1, ?_⟩
  rw [frzL_run (ks := [s2.d, t1.d]) (δ2 := [some (.dic (kks u)), some (.int m), some (.lst [.str x, .str y]), some (.ref S.length), some (.lst (cs.map D.str)), none, none, none]) (S := S) ((go _).trans hlast) rfl ok (oks s2 t1).1 (oks s2 t1).2]
  rfl
theorem row_D {k : Nat} (hk : 7 ≤ k) (S : List O) (ok : okS S) {u : Kn} (hu : Kok u) (hl : Live u) (hH : ("H1" : Str) ∉ knm u) (m : Int) : ∃ r, RowOk r u ∧ Fk k ._law_row [.dic (kks u), .int m] S = some (r.d, S) := by
  obtain ⟨k, rfl⟩ : ∃ j, k = j + 1 := ⟨k - 1, by omega⟩
  obtain ⟨n0, n1, e1, e2, e3, e4, e5, st1⟩ := row_names (k := k) (by omega) S ok u m
  obtain ⟨s0, s1, cs, q0, q1, st2⟩ := row_some (k := k) (by omega) S ok hu hl m n0 n1
  obtain ⟨w, hw⟩ := words_D m (m / 43 % 3)
  have r0 : RowOk ⟨w, m / 8 % 10000, n0, n1, s0, s1⟩ u := ⟨e1, e2, e3, e4, e5, q0, q1⟩
  obtain ⟨b, _, hb⟩ := behind_D (k := k) (by omega) S ok (r0.good hH) hu
  have c1 : ∀ a b c d : D, cutD [a, b, c, d] (some 1) none = [b, c, d] := fun a b c d => by simp [cutD, HT.sIx]
  have hex : ∃ r, RowOk r u ∧ b__law_row_t3 (Fk k) [some (.dic (kks u)), some (.int m), some (.lst [.str n0, .str n1]), some (.lst [s0.d, s1.d]), some (.lst (cs.map D.str)), some (.lst [D.str "let", .str "pass", .str "plus", .str "pick", .str "call", .str "shut", .str "leave", .str "ask", .str "held then", .str "held last"]), none, none] S = some (.rt r.d S) := by
    simp only [Rw.d] at hb
    have hw' : ∀ c : Int, (c = 1 ∧ 5 < m % 8 ↔ m / 43 % 3 = 1 ∧ 5 < m % 8) → True := fun _ _ => trivial
    have step : b__law_row_t3 (Fk k) [some (.dic (kks u)), some (.int m), some (.lst [.str n0, .str n1]), some (.lst [s0.d, s1.d]), some (.lst (cs.map D.str)), some (.lst [D.str "let", .str "pass", .str "plus", .str "pick", .str "call", .str "shut", .str "leave", .str "ask", .str "held then", .str "held last"]), none, none] S =
        b__law_row_t4 (Fk k) [some (.dic (kks u)), some (.int m), some (.lst [.str n0, .str n1]), some (.lst [s0.d, s1.d]), some (.lst (cs.map D.str)), some (.lst [D.str "let", .str "pass", .str "plus", .str "pick", .str "call", .str "shut", .str "leave", .str "ask", .str "held then", .str "held last"]), some (Rw.d ⟨w, m / 8 % 10000, n0, n1, s0, s1⟩), none] S := by
      by_cases h1 : m / 43 % 3 = 1
      · by_cases h2 : 5 < m % 8
        · rw [if_pos ⟨h1, h2⟩] at hw
          simp only [Int.mul_one] at hw
          simp [b__law_row_t3, zEv, List.map_cons, List.map_nil, List.length_cons, List.length_nil, List.cons_append, List.nil_append, List.append_nil, List.getElem?_cons_zero, List.getElem?_cons_succ, List.set_cons_zero, List.set_cons_succ, ofString_inj, ofString_beq, h1, h2, hw, Rw.d]
        · rw [if_neg (fun z => h2 z.2)] at hw
          simp only [Int.mul_zero, Int.add_zero] at hw
          simp [b__law_row_t3, zEv, List.map_cons, List.map_nil, List.length_cons, List.length_nil, List.cons_append, List.nil_append, List.append_nil, List.getElem?_cons_zero, List.getElem?_cons_succ, List.set_cons_zero, List.set_cons_succ, ofString_inj, ofString_beq, h1, h2, hw, Rw.d]
      · rw [if_neg (fun z => h1 z.1)] at hw
        simp only [Int.mul_zero, Int.add_zero] at hw
        simp [b__law_row_t3, zEv, List.map_cons, List.map_nil, List.length_cons, List.length_nil, List.cons_append, List.nil_append, List.append_nil, List.getElem?_cons_zero, List.getElem?_cons_succ, List.set_cons_zero, List.set_cons_succ, ofString_inj, ofString_beq, h1, hw, Rw.d]
    rw [step]
    by_cases h41 : 0 < m / 41 % 8
    · have nb : isNon (oD b.1) = b.1.isNone := by cases b.1 <;> rfl
      cases hbo : b.1 with
      | none =>
        refine ⟨_, r0, ?_⟩
        simp [b__law_row_t4, b__law_row_t5, zEv, List.map_cons, List.map_nil, List.length_cons, List.length_nil, List.cons_append, List.nil_append, List.append_nil, List.getElem?_cons_zero, List.getElem?_cons_succ, List.set_cons_zero, List.set_cons_succ, ofString_inj, ofString_beq, h41, Rw.d, hb, bhD, at0, hbo, oD, isNon]
      | some a =>
        refine ⟨⟨.lt, m / 8 % 10000, n0, n1, s0, s1⟩, ⟨e1, e2, e3, e4, e5, q0, q1⟩, ?_⟩
        simp [b__law_row_t4, zEv, List.map_cons, List.map_nil, List.length_cons, List.length_nil, List.cons_append, List.nil_append, List.append_nil, List.getElem?_cons_zero, List.getElem?_cons_succ, List.set_cons_zero, List.set_cons_succ, ofString_inj, ofString_beq, h41, Rw.d, hb, bhD, at0, hbo, oD, isNon, c1, (show Wd.s .lt = Str.ofString "let" from rfl), sizeLine_eq]
    · refine ⟨_, r0, ?_⟩
      simp [b__law_row_t4, b__law_row_t5, zEv, List.map_cons, List.map_nil, List.length_cons, List.length_nil, List.cons_append, List.nil_append, List.append_nil, List.getElem?_cons_zero, List.getElem?_cons_succ, List.set_cons_zero, List.set_cons_succ, ofString_inj, ofString_beq, h41, Rw.d]
  obtain ⟨r, hr, hex⟩ := hex
  refine ⟨r, hr, ?_⟩
  rw [Fk_s]
  show gcFn (fnD 8 (b__law_row (Fk k))) _ _ = _
  have e6 : b__law_row (Fk k) [some (.dic (kks u)), some (.int m), none, none, none, none, none, none] S = some (.rt r.d S) := by
    show sSeq _ (b__law_row_t1 (Fk k)) _ _ = _
    rw [sSeq_u, st1, seqK_1]
    show sSeq _ (b__law_row_t2 (Fk k)) _ _ = _
    rw [sSeq_u, st2, seqK_1]
    refine Eq.trans ?_ hex
    simp [b__law_row_t2, zEv, List.map_cons, List.map_nil, List.length_cons, List.length_nil, List.cons_append, List.nil_append, List.append_nil, List.getElem?_cons_zero, List.getElem?_cons_succ, List.set_cons_zero, List.set_cons_succ, ofString_inj, ofString_beq]
  rw [gcFn_u, fnD_u]
  simp only [List.map_cons, List.map_nil, List.length_cons, List.length_nil, List.cons_append, List.nil_append]
  rw [show List.replicate (8 - (0 + 1 + 1)) none = ([none, none, none, none, none, none] : Sl) from rfl, e6, fnK_1, gcK_1]
  exact gc_same (Nat.le_refl _)
/-! ## k07: the law -/
theorem rs_eqv (S : List O) (a b : Rs) : dEqv 64 S a.d b.d = some (PyData.eqv (py a.d) (py b.d)) := by
  have lay : ∀ r : Rs, (py r.d).canLay0 = true := fun r => by
    cases r <;> (simp [Rs.d, py, pyL, PyData.canLay0, PyData.canLayAll0]; decide +kernel)
  have dp : ∀ r : Rs, (py r.d).depth ≤ 64 := fun r => by
    cases r <;> simp [Rs.d, py, pyL, PyData.depth, PyData.depthAll]
  have h1 := lay a
  have h2 := lay b
  have h3 := dp a
  have e1 : dEqv 64 S a.d b.d = if (py a.d).canLay0 = true ∧ (py b.d).canLay0 = true ∧ min (py a.d).depth (py b.d).depth ≤ 64 then some (PyData.eqv (py a.d) (py b.d)) else none := by
    cases a <;> cases b <;> rfl
  rw [e1, if_pos ⟨h1, h2, by omega⟩]
theorem rs_eq (S : List O) (r : Rs) : dEq 64 r.d r.d S = some (.bl true) := by
  unfold dEq
  rw [rs_eqv]
  cases r <;> simp [Rs.d, py, pyL, PyData.eqv, PyData.eqvAll]
theorem beh_shape {r : Rw} {tn : Str} {e e' : Kn} {o : Option Int} {j : Nat} (hb : beh r tn e = some (o, e', j)) : e' = e ∨ (∃ v, e' = kset e r.n0 v) ∨ ∃ v w, e' = kset (kset e r.n0 v) r.n1 w := by
  have sb : ∀ v j, (bound r e v j).1 = e ∨ (∃ v', (bound r e v j).1 = kset e r.n0 v') ∨ ∃ v' w, (bound r e v j).1 = kset (kset e r.n0 v') r.n1 w := fun v j => by
    unfold bound
    split
    · exact .inr (.inl ⟨_, rfl⟩)
    · exact .inr (.inr ⟨_, _, rfl⟩)
  unfold beh at hb
  obtain ⟨v0, m0, hb⟩ := Option.bind_eq_some_iff.mp hb
  obtain ⟨v1, m1, hb⟩ := Option.bind_eq_some_iff.mp hb
  cases hw : r.w with
  | lt => simp only [hw, Option.some.injEq, Prod.mk.injEq] at hb; obtain ⟨_, rfl, _⟩ := hb; exact .inr (.inl ⟨_, rfl⟩)
  | leave => simp only [hw, Option.some.injEq, Prod.mk.injEq] at hb; obtain ⟨_, rfl, _⟩ := hb; exact .inr (.inl ⟨_, rfl⟩)
  | pass => simp only [hw, Rw.go, Option.some.injEq, Prod.mk.injEq] at hb; obtain ⟨_, rfl, _⟩ := hb; exact sb _ _
  | shut => simp only [hw, Rw.go, Option.some.injEq, Prod.mk.injEq] at hb; obtain ⟨_, rfl, _⟩ := hb; exact sb _ _
  | ask =>
    simp only [hw] at hb
    split at hb <;> (simp only [Option.some.injEq, Prod.mk.injEq] at hb; obtain ⟨_, rfl, _⟩ := hb; exact .inl rfl)
  | hthn =>
    simp only [hw] at hb
    obtain ⟨v, _, hb⟩ := Option.bind_eq_some_iff.mp hb
    simp only [Option.some.injEq, Prod.mk.injEq] at hb; obtain ⟨_, rfl, _⟩ := hb; exact .inr (.inr ⟨_, _, rfl⟩)
  | hlast =>
    simp only [hw] at hb
    obtain ⟨v, _, hb⟩ := Option.bind_eq_some_iff.mp hb
    simp only [Option.some.injEq, Prod.mk.injEq] at hb; obtain ⟨_, rfl, _⟩ := hb; exact .inr (.inl ⟨_, rfl⟩)
  | plus =>
    simp only [hw] at hb
    split at hb <;> (simp only [Rw.go, Option.some.injEq, Prod.mk.injEq] at hb; obtain ⟨_, rfl, _⟩ := hb; first | exact sb _ _ | exact .inl rfl)
  | pick =>
    simp only [hw] at hb
    split at hb <;> (simp only [Option.some.injEq, Prod.mk.injEq] at hb; obtain ⟨_, rfl, _⟩ := hb; exact .inl rfl)
  | call =>
    simp only [hw] at hb
    split at hb
    · simp only [Rw.go, Option.some.injEq, Prod.mk.injEq] at hb; obtain ⟨_, rfl, _⟩ := hb; exact sb _ _
    · split at hb <;> (simp only [Rw.go, Option.some.injEq, Prod.mk.injEq] at hb; obtain ⟨_, rfl, _⟩ := hb; first | exact sb _ _ | exact .inl rfl)
    · simp only [Option.some.injEq, Prod.mk.injEq] at hb; obtain ⟨_, rfl, _⟩ := hb; exact .inl rfl
/-- what is known stays as it should -/
def Kst (n : Nat) (e : Kn) : Prop := (knm e).Nodup ∧ e.length ≤ n ∧ (∀ x ∈ knm e, PySem.PyData.strOk x = true) ∧ ("H1" : Str) ∉ knm e
theorem Kst.ok {n : Nat} {e : Kn} (h : Kst n e) (hn : n ≤ 60) : Kok e := ⟨h.1, by have := h.2.1; omega, h.2.2.1⟩
theorem Kst.step {n : Nat} {r : Rw} {tn : Str} {e e' : Kn} {o : Option Int} {j : Nat} (h : Kst n e) (h0 : r.n0 ≠ "H1") (h1 : r.n1 ≠ "H1") (k0 : PySem.PyData.strOk r.n0 = true) (k1 : PySem.PyData.strOk r.n1 = true) (hb : beh r tn e = some (o, e', j)) : Kst (n + 2) e' := by
  obtain ⟨b1, b2⟩ := beh_names hb
  refine ⟨?_, by have := h.2.1; omega, fun x hx => ?_, fun z => ?_⟩
  · rcases beh_shape hb with rfl | ⟨v, rfl⟩ | ⟨v, w, rfl⟩
    · exact h.1
    · exact kset_nodup _ _ h.1
    · exact kset_nodup _ _ (kset_nodup _ _ h.1)
  · rcases b2 x hx with rfl | rfl | q
    · exact k0
    · exact k1
    · exact h.2.2.1 x q
  · rcases b2 _ z with q | q | q
    · exact h0 q.symm
    · exact h1 q.symm
    · exact h.2.2.2 q
theorem RowOk.up {r : Rw} {e : Kn} (he : Kok e) (h : RowOk r (usable e)) : RowOk r e := by
  have up : ∀ {t : Tm}, Sk7 (usable e) t → Sk7 e t := fun {t} s => by
    cases s with
    | num n => exact .num n
    | name hw hn => exact .name (usable_get he hw).1 hn
    | cdP fn a => exact .cdP fn a
    | cdQ fn a b hw hn h1 h2 h3 => exact .cdQ fn a b (usable_get he hw).1 hn h1 h2 h3
  exact ⟨h.ne, h.h0, h.h1, h.k0, h.k1, up h.s0, up h.s1⟩
theorem Sk7.up {e : Kn} (he : Kok e) {t : Tm} (s : Sk7 (usable e) t) : Sk7 e t := by
  cases s with
  | num n => exact .num n
  | name hw hn => exact .name (usable_get he hw).1 hn
  | cdP fn a => exact .cdP fn a
  | cdQ fn a b hw hn h1 h2 h3 => exact .cdQ fn a b (usable_get he hw).1 hn h1 h2 h3
theorem usable_H1 {e : Kn} (h : ("H1" : Str) ∉ knm e) : ("H1" : Str) ∉ knm (usable e) := fun z => by
  obtain ⟨p, hp, e1⟩ := List.mem_map.mp z
  exact h (List.mem_map.mpr ⟨p, (List.mem_filter.mp hp).1, e1⟩)
def stoodL : List Rw → Kn → List Kn
  | [], _ => []
  | r :: rs, e => e :: stoodL rs (((beh r (trnd r e) e).map fun b => b.2.1).getD [])
def kdD (e : Kn) : D := .dic (kks e)
theorem okD_rw (n : Nat) (r : Rw) : okD n r.d = true := by simp [Rw.d, okD, okDs, okD_tm]
theorem okD_oD (n : Nat) (o : Option Int) : okD n (oD o) = true := by cases o <;> simp [oD, okD, okDs]
theorem okDs_rw (n : Nat) (rs : List Rw) : okDs n (rs.map Rw.d) = true := okDs_all _ _ fun d hd => by
  obtain ⟨z, _, rfl⟩ := List.mem_map.mp hd
  exact okD_rw n z
theorem okDs_kd (n : Nat) (es : List Kn) : okDs n (es.map kdD) = true := okDs_all _ _ fun d hd => by
  obtain ⟨z, _, rfl⟩ := List.mem_map.mp hd
  exact oko_kks n z
def St7 (rs : List Rw) (es : List Kn) : List O := [.lst (rs.map Rw.d), .lst (es.map kdD)]
theorem St7_ok (rs : List Rw) (es : List Kn) : okS (St7 rs es) := by
  simp [okS, St7, okO, okDs_rw, okDs_kd]
theorem St7_a (rs : List Rw) (es : List Kn) (r : Rw) (h : rs.length < 16777216) : kAppend (.ref 0) r.d (St7 rs es) = some (.non, St7 (rs ++ [r]) es) := by
  simp [kAppend, setO, St7, h]
theorem St7_b (rs : List Rw) (es : List Kn) (e : Kn) (h : es.length < 16777216) : kAppend (.ref 1) (.dic (kks e)) (St7 rs es) = some (.non, St7 rs (es ++ [e])) := by
  simp [kAppend, setO, St7, h, kdD]
theorem St7_la (rs : List Rw) (es : List Kn) : isLst (St7 rs es) (.ref 0) = true := rfl
theorem St7_lb (rs : List Rw) (es : List Kn) : isLst (St7 rs es) (.ref 1) = true := rfl
/-- a slot's data, without changing things -/
def zok (z : Option D) : Prop := ∀ d, z = some d → ∀ n, okD n d = true
def loop1 (k : Nat) : B := (sSeq (sSet 12 (eCall 2 (Fk k ._law_row) (aCons (eCall 1 (Fk k ._law_usable) (aCons (eVar 1) aNil)) (aCons (eCall 1 (Fk k ._law_mixed) (aCons (eOp dAdd (eVar 5) (eOp dMul (eC (.int 7919)) (eVar 4))) aNil)) aNil))))
  (sSeq (sExp (eMeth1 kAppend (eVar 2) (eVar 12)))
  (sSeq (sExp (eMeth1 kAppend (eVar 3) (eVar 1)))
  (sSeq (sAsg (eCall 2 (Fk k ._law_behind) (aCons (eVar 12) (aCons (eVar 1) aNil))) (gdTup 3 (gsCons (gdName 14) (gsCons (gdName 1) (gsCons (gdName 15) gsNil)))))
  (sIf (tOf (eOp (dIsN true) (eVar 14) (eC .non))) (sSeq (sSet 1 (eDi ddNew))
  sBrk) sNext)))))
def δ1 (a e r s z4 z5 z12 z14 z15 : Option D) : Sl := [a, e, r, s, z4, z5, none, none, none, none, none, none, z12, none, z14, z15, none]
theorem loop1_D {k : Nat} (hk : 8 ≤ k) (a : D) : ∀ (cs : List Int) (i : Nat) (e : Kn) (rs0 : List Rw) (es0 : List Kn) (z4 z5 z12 z14 z15 : Option D), Kst (2 * i) e → i + cs.length ≤ 19 → rs0.length = i → es0.length = i → zok z4 → zok z5 → zok z12 → zok z14 → zok z15 →
    ∃ (rs : List Rw) (f : Option Kn) (z4' z5' z12' z14' z15' : Option D), Ch rs e f ∧ (∀ r ∈ rs, PySem.PyData.strOk r.n0 = true) ∧ rs.length ≤ cs.length ∧ (∀ e' ∈ stoodL rs e, Kok e') ∧ (∀ e', f = some e' → Kok e') ∧ zok z4' ∧ zok z5' ∧ zok z12' ∧ zok z14' ∧ zok z15' ∧ (stoodL rs e).length = rs.length ∧
      forD (gdTup 2 (gsCons (gdName 4) (gsCons (gdName 5) gsNil))) (loop1 k) (enumD i (cs.map D.int)) (δ1 (some a) (some (.dic (kks e))) (some (.ref 0)) (some (.ref 1)) z4 z5 z12 z14 z15) (St7 rs0 es0) =
        some (.nx (δ1 (some a) (some (.dic (kks (f.getD [])))) (some (.ref 0)) (some (.ref 1)) z4' z5' z12' z14' z15') (St7 (rs0 ++ rs) (es0 ++ stoodL rs e)))
  | [], i, e, rs0, es0, z4, z5, z12, z14, z15, he, hi, h1, h2, q4, q5, q12, q14, q15 => by
    refine ⟨[], some e, z4, z5, z12, z14, z15, .nil e, by simp, by simp, by simp [stoodL], fun e' h => by cases h; exact he.ok (by simp at hi; omega), q4, q5, q12, q14, q15, rfl, ?_⟩
    simp [enumD, forD_n, stoodL]
  | c :: cs, i, e, rs0, es0, z4, z5, z12, z14, z15, he, hi, h1, h2, q4, q5, q12, q14, q15 => by
    simp only [List.length_cons] at hi
    have ke := he.ok (by omega)
    have u1 := usable_D (k := k) (by omega) (St7 rs0 es0) ke
    have x1 := mixed_D (k := k) (by omega) (c + 7919 * (i : Int)) (St7 rs0 es0)
    obtain ⟨r, hr, c1⟩ := row_D (k := k) (by omega) (St7 rs0 es0) (St7_ok _ _) (usable_ok ke) (usable_live ke) (usable_H1 he.2.2.2) (mixed (c + 7919 * (i : Int)))
    have hr' := hr.up ke
    have g := hr'.good he.2.2.2
    obtain ⟨b, hb, c2⟩ := behind_D (k := k) (by omega) (St7 (rs0 ++ [r]) (es0 ++ [e])) (St7_ok _ _) g ke
    obtain ⟨o, e', j⟩ := b
    have a1 := St7_a rs0 es0 r (by omega)
    have a2 := St7_b (rs0 ++ [r]) es0 e (by omega)
    have mm : ∀ S, dMul (.int 7919) (.int (i : Int)) S = some (.int (7919 * (i : Int))) := fun S => dMul_l (by decide)
    simp only [bhD] at c2
    simp only [List.map_cons, enumD]
    rw [forD_c]
    cases o with
    | none =>
      have hs := he.step hr.h0 hr.h1 hr.k0 hr.k1 hb
      obtain ⟨rs, f, z4', z5', z12', z14', z15', w1, w2, w3, w4, w4', w5, w6, w7, w8, w9, w10, w11⟩ := loop1_D hk a cs (i + 1) e' (rs0 ++ [r]) (es0 ++ [e]) (some (.int (i : Nat))) (some (.int c)) (some r.d) (some .non) (some (.int (j : Nat))) (by rw [show 2 * (i + 1) = 2 * i + 2 from by omega]; exact hs) (by omega) (by simp [h1]) (by simp [h2])
        (fun d h n => by cases h; simp [okD]) (fun d h n => by cases h; simp [okD]) (fun d h n => by cases h; exact okD_rw n r) (fun d h n => by cases h; simp [okD]) (fun d h n => by cases h; simp [okD])
      have est : stoodL (r :: rs) e = e :: stoodL rs e' := by simp [stoodL, hb]
      refine ⟨r :: rs, f, z4', z5', z12', z14', z15', .go g hb w1, fun x hx => ?_, by simp; omega, fun x hx => ?_, w4', w5, w6, w7, w8, w9, by rw [est]; simp [w10], ?_⟩
      · rcases List.mem_cons.mp hx with q | q
        · rw [q]; exact hr.k0
        · exact w2 x q
      · rw [est] at hx
        rcases List.mem_cons.mp hx with q | q
        · rw [q]; exact ke
        · exact w4 x q
      · rw [est]
        rw [show rs0 ++ r :: rs = rs0 ++ [r] ++ rs from by simp, show es0 ++ e :: stoodL rs e' = es0 ++ [e] ++ stoodL rs e' from by simp]
        rw [← w11]
        simp [loop1, δ1, zEv, List.map_cons, List.map_nil, List.length_cons, List.length_nil, List.cons_append, List.nil_append, List.append_nil, List.getElem?_cons_zero, List.getElem?_cons_succ, List.set_cons_zero, List.set_cons_succ, ofString_inj, ofString_beq, gdTup, gsCons, gsNil, gdName, mm, dAdd_i, x1, u1, c1, a1, a2, St7_la, St7_lb, c2, oD, isNon]
    | some m =>
      have est : stoodL [r] e = [e] := by simp [stoodL]
      refine ⟨[r], none, some (.int (i : Nat)), some (.int c), some r.d, some (oD (some m)), some (.int (j : Nat)), .stuck g hb, fun x hx => ?_, by simp, fun x hx => ?_, (fun _ z => nomatch z), fun d h n => by cases h; simp [okD], fun d h n => by cases h; simp [okD], fun d h n => by cases h; exact okD_rw n r, fun d h n => by cases h; exact okD_oD n _, fun d h n => by cases h; simp [okD], by rw [est]; rfl, ?_⟩
      · rw [List.mem_singleton] at hx
        rw [hx]; exact hr.k0
      · rw [est, List.mem_singleton] at hx
        rw [hx]; exact ke
      · rw [est]
        simp [loop1, δ1, zEv, List.map_cons, List.map_nil, List.length_cons, List.length_nil, List.cons_append, List.nil_append, List.append_nil, List.getElem?_cons_zero, List.getElem?_cons_succ, List.set_cons_zero, List.set_cons_succ, ofString_inj, ofString_beq, gdTup, gsCons, gsNil, gdName, mm, dAdd_i, x1, u1, c1, a1, a2, St7_la, St7_lb, c2, oD, isNon]
        rfl
theorem frzLL_run {b : B} {δ δ2 : Sl} {xs ys : List D} (h : b δ [] = some (.nx δ2 [.lst xs, .lst ys])) (h2 : δ2[2]? = some (some (.ref 0))) (h3 : δ2[3]? = some (some (.ref 1))) (hs : okSl2 0 2 3 δ2 = true) (hx : okDs 0 xs = true) (hy : okDs 0 ys = true) : sFrzLL 2 3 b δ [] = some (.nx ((δ2.set 2 (some (.lst xs))).set 3 (some (.lst ys))) []) := by
  unfold sFrzLL
  rw [h]
  simp only [Option.bind_some]
  unfold frzLL
  rw [h2, h3]
  simp only [List.length_nil, List.take_zero, List.all_nil, List.getElem?_cons_zero, List.getElem?_cons_succ]
  rw [if_pos ⟨Nat.le_refl _, Nat.zero_le _, trivial, hs⟩, if_pos ⟨hx, hy⟩]
  rfl
/-- the pairs of rows and what stood there -/
def tmL : List (Rw × Kn) → Tm → Tm
  | [], t => t
  | p :: ps, t => tmOf p.1 (trnd p.1 p.2) (tmL ps t) p.2
theorem tmL_all (last : Tm) : ∀ (rs : List Rw) (e : Kn), tmAll rs e last = tmL (rs.zip (stoodL rs e)) (.pass .halt last .fin)
  | [], _ => rfl
  | r :: rs, e => by
    rw [tmAll, stoodL, List.zip_cons_cons, tmL, tmL_all last rs]
theorem ch_good {rs : List Rw} {e : Kn} {f : Option Kn} (c : Ch rs e f) : (∀ e' ∈ stoodL rs e, Kok e') → ∀ p ∈ rs.zip (stoodL rs e), Gd7 p.1 (trnd p.1 p.2) p.2 ∧ Kok p.2 := by
  induction c with
  | nil e => intro _ p hp; simp [stoodL] at hp
  | @go r rs e e' j f g hb c ih =>
    intro hk p hp
    have est : stoodL (r :: rs) e = e :: stoodL rs e' := by simp [stoodL, hb]
    rw [est] at hk hp
    rw [List.zip_cons_cons] at hp
    rcases List.mem_cons.mp hp with q | q
    · rw [q]; exact ⟨g, hk _ List.mem_cons_self⟩
    · exact ih (fun x hx => hk x (List.mem_cons_of_mem _ hx)) p q
  | @stuck r e e' a j g hb =>
    intro hk p hp
    have est : stoodL [r] e = [e] := by simp [stoodL]
    rw [est] at hk hp
    simp only [List.zip_cons_cons, List.zip_nil_right, List.mem_singleton] at hp
    rw [hp]; exact ⟨g, hk _ List.mem_cons_self⟩
def ixs : Nat → Nat → List D
  | _, 0 => []
  | i, n + 1 => .int (i : Nat) :: ixs (i + 1) n
theorem ixs_is : ∀ (n i : Nat), ixs i n = (List.range n).map fun j => D.int ((i + j : Nat) : Int)
  | 0, i => by simp [ixs]
  | n + 1, i => by
    rw [List.range_succ_eq_map]
    simp only [ixs, List.map_cons, List.map_map, Nat.add_zero, ixs_is n (i + 1)]
    congr 1
    apply List.map_congr_left
    intro j _
    simp only [Function.comp]
    congr 2
    omega
theorem range_ixs (n : Nat) : rangeD 0 (n : Int) = ixs 0 n := by
  rw [ixs_is]
  unfold rangeD
  have : ((n : Int) - 0).toNat = n := by omega
  rw [this]
  apply List.map_congr_left
  intro j _
  simp
theorem atI_back {α : Type} {xs : List α} {j : Nat} (h : j < xs.length) : atI xs (-1 - (j : Int)) = xs[xs.length - 1 - j]? := by
  unfold atI ixN
  rw [if_neg (by omega), if_pos (by omega)]
  simp only [Option.bind_some]
  congr 1
  omega
def loop2 (k : Nat) : B := sSet 8 (eCall 3 (Fk k ._law_term) (aCons (eOp dIx (eVar 2) (eOp (dInt gSub) (eNeg (eC (.int 1))) (eVar 4))) (aCons (eVar 8) (aCons (eOp dIx (eVar 3) (eOp (dInt gSub) (eNeg (eC (.int 1))) (eVar 4))) aNil))))
def δ2 (a e r s z4 z5 l c t z12 z14 z15 : Option D) : Sl := [a, e, r, s, z4, z5, l, c, t, none, none, none, z12, none, z14, z15, none]
theorem loop2_D {k : Nat} (hk : 4 ≤ k) (a e l c z5 z12 z14 z15 : Option D) (rs : List Rw) (es : List Kn) (hl : es.length = rs.length) (hg : ∀ p ∈ rs.zip es, Gd7 p.1 (trnd p.1 p.2) p.2 ∧ Kok p.2) (T0 : Tm) : ∀ (m j : Nat) (z4 : Option D), j + m = rs.length →
    ∃ z4', forD (gdName 4) (loop2 k) (ixs j m) (δ2 a e (some (.lst (rs.map Rw.d))) (some (.lst (es.map kdD))) z4 z5 l c (some (tmL ((rs.zip es).drop (rs.length - j)) T0).d) z12 z14 z15) [] =
      some (.nx (δ2 a e (some (.lst (rs.map Rw.d))) (some (.lst (es.map kdD))) z4' z5 l c (some (tmL (rs.zip es) T0).d) z12 z14 z15) [])
  | 0, j, z4, h => by
    refine ⟨z4, ?_⟩
    have : rs.length - j = 0 := by omega
    rw [this]
    simp [ixs, forD_n]
  | m + 1, j, z4, h => by
    obtain ⟨z4', ih⟩ := loop2_D hk a e l c z5 z12 z14 z15 rs es hl hg T0 m (j + 1) (some (.int (j : Nat))) (by omega)
    refine ⟨z4', ?_⟩
    have hzl : (rs.zip es).length = rs.length := by rw [List.length_zip, hl, Nat.min_self]
    have hj : rs.length - 1 - j < rs.length := by omega
    have hj2 : rs.length - 1 - j < es.length := by omega
    have hjz : rs.length - 1 - j < (rs.zip es).length := by omega
    have hm := hg (rs[rs.length - 1 - j], es[rs.length - 1 - j]) (by
      have := List.getElem_mem hjz
      rwa [List.getElem_zip] at this)
    have e1 : (rs.zip es).drop (rs.length - (j + 1)) = (rs[rs.length - 1 - j], es[rs.length - 1 - j]) :: (rs.zip es).drop (rs.length - j) := by
      rw [show rs.length - (j + 1) = rs.length - 1 - j from by omega, List.drop_eq_getElem_cons hjz, List.getElem_zip]
      rw [show rs.length - 1 - j + 1 = rs.length - j from by omega]
    have a1 : atI (rs.map Rw.d) (-1 - (j : Int)) = some (rs[rs.length - 1 - j]).d := by
      rw [atI_back (by rw [List.length_map]; omega), List.length_map, List.getElem?_map, List.getElem?_eq_getElem hj]; rfl
    have a2 : atI (es.map kdD) (-1 - (j : Int)) = some (.dic (kks (es[rs.length - 1 - j]))) := by
      rw [atI_back (by rw [List.length_map]; omega), List.length_map, hl, List.getElem?_map, List.getElem?_eq_getElem hj2]; rfl
    have tD := term_D (k := k) (by omega) [] hm.1 hm.2 (tmL ((rs.zip es).drop (rs.length - j)) T0)
    rw [e1] at ih
    simp only [tmL] at ih
    rw [← ih]
    rw [ixs, forD_c]
    simp [loop2, δ2, zEv, List.map_cons, List.map_nil, List.length_cons, List.length_nil, List.cons_append, List.nil_append, List.append_nil, List.getElem?_cons_zero, List.getElem?_cons_succ, List.set_cons_zero, List.set_cons_succ, ofString_inj, ofString_beq, gdName, dSub_i, a1, a2, tD]
def dueD : Option Rs → D
  | none => .non
  | some r => r.d
def loop3 (k : Nat) : B := (sSeq (sAsg (eCall 2 (Fk k ._law_behind) (aCons (eVar 12) (aCons (eVar 1) aNil))) (gdTup 3 (gsCons (gdName 14) (gsCons (gdName 16) (gsCons (gdName 15) gsNil)))))
  (sSeq (sIf (tfAnd (tOf (eOp (dCmp fun i j => decide (i > j)) (eVar 15) (eC (.int 0)))) (tOf (eOp (dCmp fun i j => decide (i > j)) (eOp dAdd (eVar 11) (eVar 15)) (eVar 9)))) (sSet 14 (eTup (aCons (eC (.str "dry")) aNil))) sNext)
  (sSeq (sIf (tfAnd (tOf (eOp (dIsN true) (eVar 14) (eC .non))) (tOf (eOp (dIsN false) (eVar 10) (eC .non)))) (sSet 10 (eVar 14)) sNext)
  (sSeq (sSet 1 (eVar 16))
  (sSet 11 (eOp dAdd (eVar 11) (eVar 15)))))))
def δ3 (a e r s z4 z5 l c t : Option D) (fu : Nat) (due : D) (ct : Int) (z12 z14 z15 z16 : Option D) : Sl := [a, e, r, s, z4, z5, l, c, t, some (.int (fu : Nat)), some due, some (.int ct), z12, none, z14, z15, z16]
theorem nonR (r : Rs) : isNon r.d = false := by cases r <;> rfl
theorem nonN : isNon .non = true := rfl
theorem stD (a : Int) : D.tup [.str "stuck", .int a] = (Rs.stuck a).d := rfl
theorem dryD : D.tup [.str "dry"] = Rs.dry.d := rfl
theorem loop3_D {k : Nat} (hk : 6 ≤ k) (a r s z4 z5 l c t : Option D) (fu : Nat) {rs : List Rw} {e : Kn} {f : Option Kn} (ch : Ch rs e f) : (∀ e' ∈ stoodL rs e, Kok e') → ∀ (due : Option Rs) (ct : Nat) (x : Kn × Option Rs × Nat) (z12 z14 z15 z16 : Option D), lp2 fu rs e due ct = some x →
    ∃ z12' z14' z15' z16', forD (gdName 12) (loop3 k) (rs.map Rw.d) (δ3 a (some (.dic (kks e))) r s z4 z5 l c t fu (dueD due) ct z12 z14 z15 z16) [] = some (.nx (δ3 a (some (.dic (kks x.1))) r s z4 z5 l c t fu (dueD x.2.1) x.2.2 z12' z14' z15' z16') []) := by
  have one : ∀ {r0 : Rw} {e e' : Kn} {o : Option Int} {j : Nat} (due : Option Rs) (ct : Nat) (z12 z14 z15 z16 : Option D), Gd7 r0 (trnd r0 e) e → Kok e → beh r0 (trnd r0 e) e = some (o, e', j) →
      ∃ z14', loop3 k (δ3 a (some (.dic (kks e))) r s z4 z5 l c t fu (dueD due) (ct : Nat) (some r0.d) z14 z15 z16) [] = some (.nx (δ3 a (some (.dic (kks e'))) r s z4 z5 l c t fu (dueD (nxt fu ct j due o)) ((ct : Int) + (j : Int)) (some r0.d) z14' (some (.int (j : Nat))) (some (.dic (kks e')))) []) := by
    intro r0 e e' o j due ct z12 z14 z15 z16 g ke hb
    obtain ⟨b, hb', c2⟩ := behind_D (k := k) (by omega) [] rfl g ke
    rw [hb] at hb'
    cases hb'
    simp only [bhD] at c2
    by_cases hdry : 0 < j ∧ fu < ct + j
    · have h1 : (0 : Int) < (j : Int) := by omega
      have h2 : (fu : Int) < ((ct + j : Nat) : Int) := by omega
      have h3 : (fu : Int) < (ct : Int) + (j : Int) := by omega
      refine ⟨some Rs.dry.d, ?_⟩
      cases due with
      | none => simp [loop3, δ3, zEv, List.map_cons, List.map_nil, List.length_cons, List.length_nil, List.cons_append, List.nil_append, List.append_nil, List.getElem?_cons_zero, List.getElem?_cons_succ, List.set_cons_zero, List.set_cons_succ, ofString_inj, ofString_beq, gdTup, gsCons, gsNil, gdName, c2, hdry.1, hdry.2, h3, dryD, nonR, dueD, nonN, nxt, hdry]
      | some d => simp [loop3, δ3, zEv, List.map_cons, List.map_nil, List.length_cons, List.length_nil, List.cons_append, List.nil_append, List.append_nil, List.getElem?_cons_zero, List.getElem?_cons_succ, List.set_cons_zero, List.set_cons_succ, ofString_inj, ofString_beq, gdTup, gsCons, gsNil, gdName, c2, hdry.1, hdry.2, h3, dryD, nonR, dueD, nonN, nxt]
    · refine ⟨some (oD o), ?_⟩
      by_cases h0 : 0 < j
      · have h2 : ¬ (fu : Int) < (ct : Int) + (j : Int) := by omega
        have h3 : ¬ fu < ct + j := by omega
        cases due with
        | none =>
          cases o with
          | none => simp [loop3, δ3, zEv, List.map_cons, List.map_nil, List.length_cons, List.length_nil, List.cons_append, List.nil_append, List.append_nil, List.getElem?_cons_zero, List.getElem?_cons_succ, List.set_cons_zero, List.set_cons_succ, ofString_inj, ofString_beq, gdTup, gsCons, gsNil, gdName, c2, h0, h2, h3, dueD, nonN, nxt, oD]
          | some m => simp [loop3, δ3, zEv, List.map_cons, List.map_nil, List.length_cons, List.length_nil, List.cons_append, List.nil_append, List.append_nil, List.getElem?_cons_zero, List.getElem?_cons_succ, List.set_cons_zero, List.set_cons_succ, ofString_inj, ofString_beq, gdTup, gsCons, gsNil, gdName, c2, h0, h2, h3, dueD, nonN, nxt, oD, stD, nonR]
        | some d =>
          cases o with
          | none => simp [loop3, δ3, zEv, List.map_cons, List.map_nil, List.length_cons, List.length_nil, List.cons_append, List.nil_append, List.append_nil, List.getElem?_cons_zero, List.getElem?_cons_succ, List.set_cons_zero, List.set_cons_succ, ofString_inj, ofString_beq, gdTup, gsCons, gsNil, gdName, c2, h0, h2, h3, dueD, nonN, nxt, oD, nonR]
          | some m => simp [loop3, δ3, zEv, List.map_cons, List.map_nil, List.length_cons, List.length_nil, List.cons_append, List.nil_append, List.append_nil, List.getElem?_cons_zero, List.getElem?_cons_succ, List.set_cons_zero, List.set_cons_succ, ofString_inj, ofString_beq, gdTup, gsCons, gsNil, gdName, c2, h0, h2, h3, dueD, nonN, nxt, oD, stD, nonR]
      · cases due with
        | none =>
          cases o with
          | none => simp [loop3, δ3, zEv, List.map_cons, List.map_nil, List.length_cons, List.length_nil, List.cons_append, List.nil_append, List.append_nil, List.getElem?_cons_zero, List.getElem?_cons_succ, List.set_cons_zero, List.set_cons_succ, ofString_inj, ofString_beq, gdTup, gsCons, gsNil, gdName, c2, h0, dueD, nonN, nxt, oD]
          | some m => simp [loop3, δ3, zEv, List.map_cons, List.map_nil, List.length_cons, List.length_nil, List.cons_append, List.nil_append, List.append_nil, List.getElem?_cons_zero, List.getElem?_cons_succ, List.set_cons_zero, List.set_cons_succ, ofString_inj, ofString_beq, gdTup, gsCons, gsNil, gdName, c2, h0, dueD, nonN, nxt, oD, stD, nonR]
        | some d =>
          cases o with
          | none => simp [loop3, δ3, zEv, List.map_cons, List.map_nil, List.length_cons, List.length_nil, List.cons_append, List.nil_append, List.append_nil, List.getElem?_cons_zero, List.getElem?_cons_succ, List.set_cons_zero, List.set_cons_succ, ofString_inj, ofString_beq, gdTup, gsCons, gsNil, gdName, c2, h0, dueD, nonN, nxt, oD, nonR]
          | some m => simp [loop3, δ3, zEv, List.map_cons, List.map_nil, List.length_cons, List.length_nil, List.cons_append, List.nil_append, List.append_nil, List.getElem?_cons_zero, List.getElem?_cons_succ, List.set_cons_zero, List.set_cons_succ, ofString_inj, ofString_beq, gdTup, gsCons, gsNil, gdName, c2, h0, dueD, nonN, nxt, oD, stD, nonR]
  induction ch with
  | nil e =>
    intro _ due ct x z12 z14 z15 z16 h
    cases h
    exact ⟨z12, z14, z15, z16, by simp [forD_n]⟩
  | @go r0 rs e e' j f g hb ch ih =>
    intro hk' due ct x z12 z14 z15 z16 h
    have est : stoodL (r0 :: rs) e = e :: stoodL rs e' := by simp [stoodL, hb]
    rw [est] at hk'
    rw [lp2, hb] at h
    obtain ⟨z14', o1⟩ := one due ct z12 z14 z15 z16 g (hk' _ List.mem_cons_self) hb
    obtain ⟨w12, w14, w15, w16, ih⟩ := ih (fun y hy => hk' y (List.mem_cons_of_mem _ hy)) _ _ x (some r0.d) z14' (some (.int (j : Nat))) (some (.dic (kks e'))) h
    refine ⟨w12, w14, w15, w16, ?_⟩
    rw [List.map_cons, forD_c]
    have eg : gdName 12 r0.d (δ3 a (some (.dic (kks e))) r s z4 z5 l c t fu (dueD due) ct z12 z14 z15 z16) = some (δ3 a (some (.dic (kks e))) r s z4 z5 l c t fu (dueD due) ct (some r0.d) z14 z15 z16) := rfl
    rw [eg, forK2_1, o1, forK3_1, show (ct : Int) + (j : Int) = ((ct + j : Nat) : Int) from by omega, ih]
  | @stuck r0 e e' a0 j g hb =>
    intro hk' due ct x z12 z14 z15 z16 h
    have est : stoodL [r0] e = [e] := by simp [stoodL]
    rw [est] at hk'
    rw [lp2, hb] at h
    obtain ⟨z14', o1⟩ := one due ct z12 z14 z15 z16 g (hk' _ List.mem_cons_self) hb
    cases h
    refine ⟨some r0.d, z14', some (.int (j : Nat)), some (.dic (kks e')), ?_⟩
    rw [List.map_cons, forD_c]
    have eg : gdName 12 r0.d (δ3 a (some (.dic (kks e))) r s z4 z5 l c t fu (dueD due) ct z12 z14 z15 z16) = some (δ3 a (some (.dic (kks e))) r s z4 z5 l c t fu (dueD due) ct (some r0.d) z14 z15 z16) := rfl
    rw [eg, forK2_1, o1, forK3_1, List.map_nil, forD_n, show (ct : Int) + (j : Int) = ((ct + j : Nat) : Int) from by omega]
theorem calls_D {S : List O} (δ : Sl) (hδ : 12 < δ.length) : ∀ rs : List Rw, (∀ r ∈ rs, PySem.PyData.strOk r.n0 = true) → ∃ xs : List Str, (∀ x ∈ xs, PySem.PyData.strOk x = true) ∧ xs.length ≤ rs.length ∧
    lcD (gdName 12) (tOf (eOp (dEq 64) (eOp dIx (eVar 12) (eC (.int 0))) (eC (.str "call")))) (eOp dIx (eOp dIx (eVar 12) (eC (.int 2))) (eC (.int 0))) δ (rs.map Rw.d) S = some (xs.map D.str, S)
  | [], _ => ⟨[], by simp, by simp, by simp [lcD_n]⟩
  | r :: rs, h => by
    obtain ⟨xs, h1, h2, h3⟩ := calls_D (S := S) δ hδ rs fun x hx => h x (List.mem_cons_of_mem _ hx)
    have g12 : (δ.set 12 (some r.d))[12]? = some (some r.d) := by rw [List.getElem?_set_self hδ]
    rw [List.map_cons, lcD_c]
    have eg : gdName 12 r.d δ = some (δ.set 12 (some r.d)) := rfl
    rw [eg, lcK2_1]
    generalize δ.set 12 (some r.d) = δ' at g12
    by_cases hc : r.w.s = "call"
    · refine ⟨r.n0 :: xs, fun x hx => ?_, by simp; omega, ?_⟩
      · rcases List.mem_cons.mp hx with q | q
        · rw [q]; exact h r List.mem_cons_self
        · exact h1 x q
      · have c1 : tOf (eOp (dEq 64) (eOp dIx (eVar 12) (eC (.int 0))) (eC (.str "call"))) δ' S = some (true, S) := by
          simp [zEv, List.map_cons, List.map_nil, List.length_cons, List.length_nil, List.cons_append, List.nil_append, List.append_nil, List.getElem?_cons_zero, List.getElem?_cons_succ, List.set_cons_zero, List.set_cons_succ, ofString_inj, ofString_beq, g12, Rw.d, at0, hc]
        have c2 : eOp dIx (eOp dIx (eVar 12) (eC (.int 2))) (eC (.int 0)) δ' S = some (.str r.n0, S) := by
          simp [zEv, List.map_cons, List.map_nil, List.length_cons, List.length_nil, List.cons_append, List.nil_append, List.append_nil, List.getElem?_cons_zero, List.getElem?_cons_succ, List.set_cons_zero, List.set_cons_succ, ofString_inj, ofString_beq, g12, Rw.d, at0, at2]
        rw [c1, lcK3_1, c2, lcK4_1, h3, lcK5_1]
        rfl
    · refine ⟨xs, h1, by simp; omega, ?_⟩
      have c1 : tOf (eOp (dEq 64) (eOp dIx (eVar 12) (eC (.int 0))) (eC (.str "call"))) δ' S = some (false, S) := by
        simp [zEv, List.map_cons, List.map_nil, List.length_cons, List.length_nil, List.cons_append, List.nil_append, List.append_nil, List.getElem?_cons_zero, List.getElem?_cons_succ, List.set_cons_zero, List.set_cons_succ, ofString_inj, ofString_beq, g12, Rw.d, at0, hc]
      rw [c1, lcK3_2, h3]
theorem last_D {k : Nat} (hk : 3 ≤ k) (ns : List Int) {e : Kn} (ke : Kok e) (rs : List Rw) (hr : rs.length ≤ 1000) (hs : ∀ r ∈ rs, PySem.PyData.strOk r.n0 = true) (s z4 z5 z12 z14 z15 : Option D) : ∃ last, Sk7 (usable e) last ∧ ∃ c7,
    b_law_t2 (Fk k) [some (.scr ns), some (.dic (kks e)), some (.lst (rs.map Rw.d)), s, z4, z5, none, none, none, none, none, none, z12, none, z14, z15, none] [] =
      b_law_t5 (Fk k) [some (.scr ns), some (.dic (kks e)), some (.lst (rs.map Rw.d)), s, z4, z5, some last.d, some c7, none, none, none, none, z12, none, z14, z15, none] [] := by
  have u1 := usable_D (k := k) (by omega) [] ke
  have c0 := cell_D (k := k) (by omega) ns 1 (by omega) []
  have x0 := mixed_D (k := k) (by omega) (cell ns 1) []
  obtain ⟨t, ht, c1⟩ := simple_D (k := k) (by omega) [] (usable_ok ke) (usable_live ke) (mixed (cell ns 1))
  obtain ⟨xs, h1, h2, h3⟩ := calls_D (S := []) [some (.scr ns), some (.dic (kks e)), some (.lst (rs.map Rw.d)), s, z4, z5, some t.d, none, none, none, none, none, none, none, z14, z15, none] (by show 12 < 17; omega) rs hs
  have hl : rs.length ≤ 10000000 := by omega
  have k3 := strs_nil (sc := xs) h1 []
  have st3 : b_law_t2 (Fk k) [some (.scr ns), some (.dic (kks e)), some (.lst (rs.map Rw.d)), s, z4, z5, none, none, none, none, none, none, z12, none, z14, z15, none] [] =
      b_law_t4 (Fk k) [some (.scr ns), some (.dic (kks e)), some (.lst (rs.map Rw.d)), s, z4, z5, some t.d, some (.lst (xs.map D.str)), none, none, none, none, z12, none, z14, z15, none] [] := by
    simp [b_law_t2, b_law_t3, zEv, List.map_cons, List.map_nil, List.length_cons, List.length_nil, List.cons_append, List.nil_append, List.append_nil, List.getElem?_cons_zero, List.getElem?_cons_succ, List.set_cons_zero, List.set_cons_succ, ofString_inj, ofString_beq, u1, c0, x0, c1, hl, h3]
  by_cases hn : xs = []
  · subst hn
    simp only [List.map_nil, List.isEmpty_nil, Bool.not_true] at k3 st3
    refine ⟨t, ht, .lst [], ?_⟩
    rw [st3]
    simp [b_law_t4, zEv, List.map_cons, List.map_nil, List.length_cons, List.length_nil, List.cons_append, List.nil_append, List.append_nil, List.getElem?_cons_zero, List.getElem?_cons_succ, List.set_cons_zero, List.set_cons_succ, ofString_inj, ofString_beq, k3]
  · have k3' : dNe 64 (.lst (xs.map D.str)) (.lst []) [] = some (.bl true) := by
      rw [k3]
      cases xs with
      | nil => exact absurd rfl hn
      | cons _ _ => rfl
    have hp : 0 < xs.length := List.length_pos_iff.mpr hn
    have ha : atI (xs.map D.str) (-1) = some (.str (xs[xs.length - 1])) := by
      have := atI_back (xs := xs.map D.str) (j := 0) (by rw [List.length_map]; exact hp)
      rw [List.length_map, List.getElem?_map, Nat.sub_zero, List.getElem?_eq_getElem (by omega)] at this
      exact this
    have kv := kks_val (xs[xs.length - 1]) (usable e)
    cases hg : kget (usable e) (xs[xs.length - 1]) with
    | none =>
      rw [hg] at kv
      refine ⟨t, ht, .lst (xs.map D.str), ?_⟩
      rw [st3]
      simp [b_law_t4, zEv, List.map_cons, List.map_nil, List.length_cons, List.length_nil, List.cons_append, List.nil_append, List.append_nil, List.getElem?_cons_zero, List.getElem?_cons_succ, List.set_cons_zero, List.set_cons_succ, ofString_inj, ofString_beq, k3', ha, u1, kv]
    | some v =>
      rw [hg] at kv
      by_cases hm : 0 < cell ns 1 % 3
      · refine ⟨.name (xs[xs.length - 1]), .name hg (usable_get ke hg).2, .lst (xs.map D.str), ?_⟩
        rw [st3]
        simp [b_law_t4, zEv, List.map_cons, List.map_nil, List.length_cons, List.length_nil, List.cons_append, List.nil_append, List.append_nil, List.getElem?_cons_zero, List.getElem?_cons_succ, List.set_cons_zero, List.set_cons_succ, ofString_inj, ofString_beq, k3', ha, u1, kv, c0, hm, Tm.d]
      · refine ⟨t, ht, .lst (xs.map D.str), ?_⟩
        rw [st3]
        simp [b_law_t4, zEv, List.map_cons, List.map_nil, List.length_cons, List.length_nil, List.cons_append, List.nil_append, List.append_nil, List.getElem?_cons_zero, List.getElem?_cons_succ, List.set_cons_zero, List.set_cons_succ, ofString_inj, ofString_beq, k3', ha, u1, kv, c0, hm]
theorem cut_ints (ns : List Int) : ∃ cs : List Int, cutD (ns.map D.int) (some 2) (some 21) = cs.map D.int ∧ cs.length ≤ 19 := by
  refine ⟨(ns.drop (HT.sIx ns.length 0 (some 2))).take (HT.sIx ns.length ns.length (some 21) - HT.sIx ns.length 0 (some 2)), ?_, ?_⟩
  · unfold cutD
    rw [List.length_map, List.map_take, List.map_drop]
  · rw [List.length_take, List.length_drop]
    have h1 : HT.sIx ns.length ns.length (some 21) = min 21 ns.length := HT.sIx_nat _ _ 21
    have h2 : HT.sIx ns.length 0 (some 2) = min 2 ns.length := HT.sIx_nat _ _ 2
    rw [h1, h2]
    omega
def okz (z : Option D) : Bool := match z with | some d => okD 0 d | none => true
theorem okz_of {z : Option D} (h : zok z) : okz z = true := by
  cases z with
  | none => rfl
  | some d => exact h d rfl 0
theorem okSl_7 (ns : List Int) (ef : Kn) (z4 z5 z12 z14 z15 : Option D) : okSl2 0 2 3 (δ1 (some (.scr ns)) (some (.dic (kks ef))) (some (.ref 0)) (some (.ref 1)) z4 z5 z12 z14 z15) = (okz z4 && okz z5 && okz z12 && okz z14 && okz z15) := by
  cases z4 <;> cases z5 <;> cases z12 <;> cases z14 <;> cases z15 <;> simp [okSl2, δ1, List.range_succ, okD, okK_kn, Bool.and_assoc, okz]
theorem law_true : ∀ ns : List Int, ns.length ≤ 63 → ∃ S, fnD 17 (b_law (Fk 230)) [.scr ns] [] = some (.bl true, S) := fun ns hns => by
  obtain ⟨cs, hcs, hcl⟩ := cut_ints ns
  have he0 : Kst (2 * 0) [] := ⟨List.nodup_nil, Nat.le_refl _, (fun x hx => by simp [knm] at hx), by simp [knm]⟩
  obtain ⟨rs, f, z4, z5, z12, z14, z15, ch, hst, hlen, hks, hkf, q4, q5, q12, q14, q15, hsl, lp⟩ := loop1_D (k := 230) (by omega) (.scr ns) cs 0 [] [] [] none none none none none he0 (by omega) rfl rfl (fun d z => nomatch z) (fun d z => nomatch z) (fun d z => nomatch z) (fun d z => nomatch z) (fun d z => nomatch z)
  simp only [List.nil_append] at lp
  -- what is known behind the first loop
  obtain ⟨ef, hef⟩ : ∃ ef, ef = f.getD [] := ⟨_, rfl⟩
  rw [← hef] at lp
  have kef : Kok ef := by
    cases f with
    | none => rw [hef]; exact he0.ok (by omega)
    | some e' => rw [hef]; exact hkf e' rfl
  -- the two lists are made and end
  have fz : sFrzLL 2 3 (sSeq (sSet 2 (eLM (lDisp aNil))) (sSeq (sSet 3 (eLM (lDisp aNil))) (sFor (iEnumLD (eSlice (eVar 0) (ptS (eC (.int 2))) (ptS (eC (.int 21))))) (gdTup 2 (gsCons (gdName 4) (gsCons (gdName 5) gsNil))) (loop1 230)))) [some (.scr ns), some (.dic []), none, none, none, none, none, none, none, none, none, none, none, none, none, none, none] [] =
      some (.nx [some (.scr ns), some (.dic (kks ef)), some (.lst (rs.map Rw.d)), some (.lst ((stoodL rs []).map kdD)), z4, z5, none, none, none, none, none, none, z12, none, z14, z15, none] []) := by
    rw [frzLL_run (δ2 := δ1 (some (.scr ns)) (some (.dic (kks ef))) (some (.ref 0)) (some (.ref 1)) z4 z5 z12 z14 z15) (xs := rs.map Rw.d) (ys := (stoodL rs []).map kdD) ?_ rfl rfl ?_ (okDs_rw _ _) (okDs_kd _ _)]
    · rfl
    · have e1 : iEnumLD (eSlice (eVar 0) (ptS (eC (.int 2))) (ptS (eC (.int 21)))) [some (.scr ns), some (.dic []), some (.ref 0), some (.ref 1), none, none, none, none, none, none, none, none, none, none, none, none, none] [.lst [], .lst []] = some (enumD 0 (cs.map D.int), [.lst [], .lst []]) := by
        unfold iEnumLD
        have : eSlice (eVar 0) (ptS (eC (.int 2))) (ptS (eC (.int 21))) [some (.scr ns), some (.dic []), some (.ref 0), some (.ref 1), none, none, none, none, none, none, none, none, none, none, none, none, none] [.lst [], .lst []] = some (.lst (cs.map D.int), [.lst [], .lst []]) := by
          simp [zEv, List.map_cons, List.map_nil, List.length_cons, List.length_nil, List.cons_append, List.nil_append, List.append_nil, List.getElem?_cons_zero, List.getElem?_cons_succ, List.set_cons_zero, List.set_cons_succ, ofString_inj, ofString_beq, hcs]
        rw [this]
        rfl
      have k0 : kks [] = [] := rfl
      have lp' := lp
      simp only [δ1, St7, List.map_nil, k0] at lp'
      simp [zEv, List.map_cons, List.map_nil, List.length_cons, List.length_nil, List.cons_append, List.nil_append, List.append_nil, List.getElem?_cons_zero, List.getElem?_cons_succ, List.set_cons_zero, List.set_cons_succ, ofString_inj, ofString_beq, e1, lp', δ1]
    · rw [okSl_7, okz_of q4, okz_of q5, okz_of q12, okz_of q14, okz_of q15]
      rfl
  -- the term's last part
  obtain ⟨last, hlast, c7, st2⟩ := last_D (k := 230) (by omega) ns kef rs (by omega) hst (some (.lst ((stoodL rs []).map kdD))) z4 z5 z12 z14 z15
  -- the term
  have hgood := ch_good ch hks
  obtain ⟨z4', lp2'⟩ := loop2_D (k := 230) (by omega) (some (.scr ns)) (some (.dic (kks ef))) (some last.d) (some c7) z5 z12 z14 z15 rs (stoodL rs []) hsl hgood (.pass .halt last .fin) rs.length 0 z4 (by omega)
  have hd0 : (rs.zip (stoodL rs [])).drop (rs.length - 0) = [] := by
    rw [List.drop_eq_nil_iff, List.length_zip, hsl]; omega
  rw [hd0] at lp2'
  simp only [tmL] at lp2'
  rw [← tmL_all last rs []] at lp2'
  -- the fuel
  obtain ⟨fu, hfu⟩ : ∃ fu : Nat, cell ns 0 % 26 = (fu : Int) := ⟨(cell ns 0 % 26).toNat, by have := Int.emod_nonneg (cell ns 0) (b := 26) (by decide); omega⟩
  have hfl : fu < 26 := by have := Int.emod_lt_of_pos (cell ns 0) (b := 26) (by decide); omega
  have cf := cell_D (k := 230) (by omega) ns 0 (by omega) []
  -- the second going along
  obtain ⟨x, hx⟩ := lp2_some (fu := fu) ch none 0
  obtain ⟨w12, w14, w15, w16, lp3⟩ := loop3_D (k := 230) (by omega) (some (.scr ns)) (some (.lst (rs.map Rw.d))) (some (.lst ((stoodL rs []).map kdD))) z4' z5 (some last.d) (some c7) (some (tmAll rs [] last).d) fu ch hks none 0 x z12 z14 z15 none hx
  obtain ⟨hdue, hnone⟩ := lp2_is (last := last) ch (Nat.zero_le fu) hx
  rw [Nat.sub_zero] at hdue
  -- what is due
  obtain ⟨res, hres, hend⟩ : ∃ res, dueR rs [] fu last = some res ∧ sIf (tOf (eOp (dIsN false) (eVar 10) (eC .non))) (sSet 10 (eCall 1 (Fk 230 ._law_end) (aCons (eCall 2 (Fk 230 ._law_meant) (aCons (eVar 6) (aCons (eVar 1) aNil))) aNil))) sNext (δ3 (some (.scr ns)) (some (.dic (kks x.1))) (some (.lst (rs.map Rw.d))) (some (.lst ((stoodL rs []).map kdD))) z4' z5 (some last.d) (some c7) (some (tmAll rs [] last).d) fu (dueD x.2.1) x.2.2 w12 w14 w15 w16) [] =
      some (.nx (δ3 (some (.scr ns)) (some (.dic (kks x.1))) (some (.lst (rs.map Rw.d))) (some (.lst ((stoodL rs []).map kdD))) z4' z5 (some last.d) (some c7) (some (tmAll rs [] last).d) fu res.d x.2.2 w12 w14 w15 w16) []) := by
    cases hd : x.2.1 with
    | some d =>
      rw [hd] at hdue
      exact ⟨d, hdue, by simp [δ3, zEv, List.map_cons, List.map_nil, List.length_cons, List.length_nil, List.cons_append, List.nil_append, List.append_nil, List.getElem?_cons_zero, List.getElem?_cons_succ, List.set_cons_zero, List.set_cons_succ, ofString_inj, ofString_beq, dueD, nonR]⟩
    | none =>
      have hf := hnone hd
      rw [hd] at hdue
      have ex : ef = x.1 := by rw [hef, hf]; rfl
      have sl : Sk7 x.1 last := by rw [← ex]; exact hlast.up kef
      obtain ⟨v, m1, m2, m3⟩ := lmeant_D (k := 230) (by omega) [] sl
      obtain ⟨r, hr⟩ := ansK_some m2
      have en := end_D (k := 230) (by omega) [] hr
      refine ⟨r, by rw [hdue]; simp only [m1, Option.bind_some, hr], by simp [δ3, zEv, List.map_cons, List.map_nil, List.length_cons, List.length_nil, List.cons_append, List.nil_append, List.append_nil, List.getElem?_cons_zero, List.getElem?_cons_succ, List.set_cons_zero, List.set_cons_succ, ofString_inj, ofString_beq, dueD, nonN, m3, en]⟩
  -- the run
  have hrun := run_rows (c := .nil) (n := fu) ch (fun w v h => by simp [kget] at h) (by simp [knm]) (fun e' h => by
    have : ef = e' := by rw [hef, h]; rfl
    rw [← this]; exact hlast.up kef) hres
  have hrp := run_plain_D (k := 230) (by omega) [] rfl (tmAll rs [] last) fu (6 * rs.length + 2) res (by omega) hrun (by omega)
  have hty : isD "tuple" [] res.d = some true := by cases res <;> simp [Rs.d, isD, tyD]
  have heq := rs_eq [] res
  have rng : rangeD 0 (((rs.map Rw.d).length : Nat) : Int) = ixs 0 rs.length := by rw [List.length_map, range_ixs]
  have hr62 : -(2 ^ 62) ≤ ((rs.length : Nat) : Int) ∧ ((rs.length : Nat) : Int) < 2 ^ 62 := by constructor <;> omega
  have hb : b_law (Fk 230) [some (.scr ns), none, none, none, none, none, none, none, none, none, none, none, none, none, none, none, none] [] = some (.rt (.bl true) []) := by
    have hA : b_law (Fk 230) [some (.scr ns), none, none, none, none, none, none, none, none, none, none, none, none, none, none, none, none] [] = b_law_t1 (Fk 230) [some (.scr ns), some (.dic []), none, none, none, none, none, none, none, none, none, none, none, none, none, none, none] [] := by
      simp [zEv, List.map_cons, List.map_nil, List.length_cons, List.length_nil, List.cons_append, List.nil_append, List.append_nil, List.getElem?_cons_zero, List.getElem?_cons_succ, List.set_cons_zero, List.set_cons_succ, ofString_inj, ofString_beq]
    rw [hA]
    show sSeq _ (b_law_t2 (Fk 230)) _ _ = _
    rw [sSeq_u]
    have fz' := fz
    simp only [loop1] at fz'
    rw [fz', seqK_1, st2]
    have hC : b_law_t5 (Fk 230) [some (.scr ns), some (.dic (kks ef)), some (.lst (rs.map Rw.d)), some (.lst ((stoodL rs []).map kdD)), z4, z5, some last.d, some c7, none, none, none, none, z12, none, z14, z15, none] [] = b_law_t6 (Fk 230) (δ2 (some (.scr ns)) (some (.dic (kks ef))) (some (.lst (rs.map Rw.d))) (some (.lst ((stoodL rs []).map kdD))) z4 z5 (some last.d) (some c7) (some (Tm.pass .halt last .fin).d) z12 z14 z15) [] := by
      simp [b_law_t5, zEv, List.map_cons, List.map_nil, List.length_cons, List.length_nil, List.cons_append, List.nil_append, List.append_nil, List.getElem?_cons_zero, List.getElem?_cons_succ, List.set_cons_zero, List.set_cons_succ, ofString_inj, ofString_beq, δ2, Tm.d]
    rw [hC]
    have hD : b_law_t6 (Fk 230) (δ2 (some (.scr ns)) (some (.dic (kks ef))) (some (.lst (rs.map Rw.d))) (some (.lst ((stoodL rs []).map kdD))) z4 z5 (some last.d) (some c7) (some (Tm.pass .halt last .fin).d) z12 z14 z15) [] = b_law_t7 (Fk 230) (δ2 (some (.scr ns)) (some (.dic (kks ef))) (some (.lst (rs.map Rw.d))) (some (.lst ((stoodL rs []).map kdD))) z4' z5 (some last.d) (some c7) (some (tmAll rs [] last).d) z12 z14 z15) [] := by
      show sSeq (sFor _ _ (loop2 230)) (b_law_t7 (Fk 230)) _ _ = _
      have e1 : iRange1 (aCons (eBi bLen (aCons (eVar 2) aNil)) aNil) (δ2 (some (.scr ns)) (some (.dic (kks ef))) (some (.lst (rs.map Rw.d))) (some (.lst ((stoodL rs []).map kdD))) z4 z5 (some last.d) (some c7) (some (Tm.pass .halt last .fin).d) z12 z14 z15) [] = some (ixs 0 rs.length, []) := by
        rw [← range_ixs]
        simp [zEv, List.map_cons, List.map_nil, List.length_cons, List.length_nil, List.cons_append, List.nil_append, List.append_nil, List.getElem?_cons_zero, List.getElem?_cons_succ, List.set_cons_zero, List.set_cons_succ, ofString_inj, ofString_beq, δ2, hr62.2]
        omega
      rw [sSeq_u, sFor_u, e1, forK_1, lp2', seqK_1]
    rw [hD]
    have hE : b_law_t7 (Fk 230) (δ2 (some (.scr ns)) (some (.dic (kks ef))) (some (.lst (rs.map Rw.d))) (some (.lst ((stoodL rs []).map kdD))) z4' z5 (some last.d) (some c7) (some (tmAll rs [] last).d) z12 z14 z15) [] = b_law_t11 (Fk 230) (δ3 (some (.scr ns)) (some (.dic (kks []))) (some (.lst (rs.map Rw.d))) (some (.lst ((stoodL rs []).map kdD))) z4' z5 (some last.d) (some c7) (some (tmAll rs [] last).d) fu (dueD none) 0 z12 z14 z15 none) [] := by
      have k0 : kks [] = [] := rfl
      simp [b_law_t7, b_law_t8, b_law_t9, b_law_t10, zEv, List.map_cons, List.map_nil, List.length_cons, List.length_nil, List.cons_append, List.nil_append, List.append_nil, List.getElem?_cons_zero, List.getElem?_cons_succ, List.set_cons_zero, List.set_cons_succ, ofString_inj, ofString_beq, δ2, δ3, cf, hfu, k0, dueD]
    rw [hE]
    have hF : b_law_t11 (Fk 230) (δ3 (some (.scr ns)) (some (.dic (kks []))) (some (.lst (rs.map Rw.d))) (some (.lst ((stoodL rs []).map kdD))) z4' z5 (some last.d) (some c7) (some (tmAll rs [] last).d) fu (dueD none) 0 z12 z14 z15 none) [] = b_law_t12 (Fk 230) (δ3 (some (.scr ns)) (some (.dic (kks x.1))) (some (.lst (rs.map Rw.d))) (some (.lst ((stoodL rs []).map kdD))) z4' z5 (some last.d) (some c7) (some (tmAll rs [] last).d) fu (dueD x.2.1) x.2.2 w12 w14 w15 w16) [] := by
      show sSeq (sFor _ _ (loop3 230)) (b_law_t12 (Fk 230)) _ _ = _
      have e1 : iSeq (eVar 2) (δ3 (some (.scr ns)) (some (.dic (kks []))) (some (.lst (rs.map Rw.d))) (some (.lst ((stoodL rs []).map kdD))) z4' z5 (some last.d) (some c7) (some (tmAll rs [] last).d) fu (dueD none) 0 z12 z14 z15 none) [] = some (rs.map Rw.d, []) := by
        simp [zEv, List.map_cons, List.map_nil, List.length_cons, List.length_nil, List.cons_append, List.nil_append, List.append_nil, List.getElem?_cons_zero, List.getElem?_cons_succ, List.set_cons_zero, List.set_cons_succ, ofString_inj, ofString_beq, δ3]
      rw [sSeq_u, sFor_u, e1, forK_1]
      have lp3' := lp3
      rw [show ((0 : Nat) : Int) = 0 from rfl] at lp3'
      rw [lp3', seqK_1]
    rw [hF]
    show sSeq _ (b_law_t13 (Fk 230)) _ _ = _
    rw [sSeq_u, hend, seqK_1]
    simp [b_law_t13, b_law_t14, zEv, List.map_cons, List.map_nil, List.length_cons, List.length_nil, List.cons_append, List.nil_append, List.append_nil, List.getElem?_cons_zero, List.getElem?_cons_succ, List.set_cons_zero, List.set_cons_succ, ofString_inj, ofString_beq, δ3, hrp, hty, heq]
  refine ⟨[], ?_⟩
  rw [fnD_u]
  simp only [List.map_cons, List.map_nil, List.length_cons, List.length_nil, List.cons_append, List.nil_append]
  rw [show List.replicate (17 - (0 + 1)) none = ([none, none, none, none, none, none, none, none, none, none, none, none, none, none, none, none] : Sl) from rfl, hb, fnK_1]
section
variable {P : Program} {w : World} {K : PySem.W.Frag} {mg : Str → Option Value} {base : Heap} {C : Addr}
structure DefOk (K : PySem.W.Frag) (mg : Str → Option Value) (x : Str) (st : Stmt) (ps : List Str) (f : Addr) (fd : FuncData) : Prop where
  F : L2.Fun K x x st f fd
  B : Binds K fd ps []
  M : mg x = some (.ref f)
theorem all_ok {a_is_whole : Addr} {d_is_whole : FuncData} (h_is_whole : DefOk K mg "is_whole" s_is_whole ["thing"] a_is_whole d_is_whole) {a_meant : Addr} {d_meant : FuncData} (h_meant : DefOk K mg "meant" s_meant ["term", "environment"] a_meant d_meant) {a_with_names : Addr} {d_with_names : FuncData} (h_with_names : DefOk K mg "with_names" s_with_names ["environment", "names", "values"] a_with_names d_with_names) {a_going_on : Addr} {d_going_on : FuncData} (h_going_on : DefOk K mg "going_on" s_going_on ["k", "value", "g"] a_going_on d_going_on) {a_called_with : Addr} {d_called_with : FuncData} (h_called_with : DefOk K mg "called_with" s_called_with ["term", "environment"] a_called_with d_called_with) {a_summed : Addr} {d_summed : FuncData} (h_summed : DefOk K mg "summed" s_summed ["term", "environment"] a_summed d_summed) {a_chosen_of : Addr} {d_chosen_of : FuncData} (h_chosen_of : DefOk K mg "chosen_of" s_chosen_of ["term", "environment"] a_chosen_of d_chosen_of) {a_gone_on : Addr} {d_gone_on : FuncData} (h_gone_on : DefOk K mg "gone_on" s_gone_on ["term", "environment"] a_gone_on d_gone_on) {a_told_of : Addr} {d_told_of : FuncData} (h_told_of : DefOk K mg "told_of" s_told_of ["value"] a_told_of d_told_of) {a_run_plain : Addr} {d_run_plain : FuncData} (h_run_plain : DefOk K mg "run_plain" s_run_plain ["term", "fuel"] a_run_plain d_run_plain) {a__law_cell_at : Addr} {d__law_cell_at : FuncData} (h__law_cell_at : DefOk K mg "_law_cell_at" s__law_cell_at ["_law_script", "_law_k"] a__law_cell_at d__law_cell_at) {a__law_mixed : Addr} {d__law_mixed : FuncData} (h__law_mixed : DefOk K mg "_law_mixed" s__law_mixed ["_law_number"] a__law_mixed d__law_mixed) {a__law_fresh : Addr} {d__law_fresh : FuncData} (h__law_fresh : DefOk K mg "_law_fresh" s__law_fresh ["_law_mix"] a__law_fresh d__law_fresh) {a__law_simple_by : Addr} {d__law_simple_by : FuncData} (h__law_simple_by : DefOk K mg "_law_simple_by" s__law_simple_by ["_law_known", "_law_mix"] a__law_simple_by d__law_simple_by) {a__law_meant : Addr} {d__law_meant : FuncData} (h__law_meant : DefOk K mg "_law_meant" s__law_meant ["_law_term_here", "_law_known"] a__law_meant d__law_meant) {a__law_code_by : Addr} {d__law_code_by : FuncData} (h__law_code_by : DefOk K mg "_law_code_by" s__law_code_by ["_law_known", "_law_mix"] a__law_code_by d__law_code_by) {a__law_row : Addr} {d__law_row : FuncData} (h__law_row : DefOk K mg "_law_row" s__law_row ["_law_known", "_law_mix"] a__law_row d__law_row) {a__law_known_after : Addr} {d__law_known_after : FuncData} (h__law_known_after : DefOk K mg "_law_known_after" s__law_known_after ["_law_known", "_law_names", "_law_values"] a__law_known_after d__law_known_after) {a__law_bound : Addr} {d__law_bound : FuncData} (h__law_bound : DefOk K mg "_law_bound" s__law_bound ["_law_row_here", "_law_known", "_law_value", "_law_step"] a__law_bound d__law_bound) {a__law_called : Addr} {d__law_called : FuncData} (h__law_called : DefOk K mg "_law_called" s__law_called ["_law_row_here", "_law_known", "_law_values"] a__law_called d__law_called) {a__law_turned : Addr} {d__law_turned : FuncData} (h__law_turned : DefOk K mg "_law_turned" s__law_turned ["_law_row_here", "_law_known"] a__law_turned d__law_turned) {a__law_held : Addr} {d__law_held : FuncData} (h__law_held : DefOk K mg "_law_held" s__law_held ["_law_row_here", "_law_known", "_law_values"] a__law_held d__law_held) {a__law_behind : Addr} {d__law_behind : FuncData} (h__law_behind : DefOk K mg "_law_behind" s__law_behind ["_law_row_here", "_law_known"] a__law_behind d__law_behind) {a__law_held_term : Addr} {d__law_held_term : FuncData} (h__law_held_term : DefOk K mg "_law_held_term" s__law_held_term ["_law_row_here", "_law_inner", "_law_known"] a__law_held_term d__law_held_term) {a__law_handed : Addr} {d__law_handed : FuncData} (h__law_handed : DefOk K mg "_law_handed" s__law_handed ["_law_row_here", "_law_inner"] a__law_handed d__law_handed) {a__law_picked : Addr} {d__law_picked : FuncData} (h__law_picked : DefOk K mg "_law_picked" s__law_picked ["_law_row_here", "_law_inner", "_law_known"] a__law_picked d__law_picked) {a__law_term : Addr} {d__law_term : FuncData} (h__law_term : DefOk K mg "_law_term" s__law_term ["_law_row_here", "_law_inner", "_law_known"] a__law_term d__law_term) {a__law_end : Addr} {d__law_end : FuncData} (h__law_end : DefOk K mg "_law_end" s__law_end ["_law_value"] a__law_end d__law_end) {a__law_usable : Addr} {d__law_usable : FuncData} (h__law_usable : DefOk K mg "_law_usable" s__law_usable ["_law_known"] a__law_usable d__law_usable) (mb : Mb K mg) : ∀ k n, Cal P w K mg base C k (nmS n) (nmA n) (Fk k n)
  | 0, n => by
    cases n
    · exact ⟨_, _, _, fn_none, h_is_whole.B, h_is_whole.F.kp, h_is_whole.M⟩
    · exact ⟨_, _, _, fn_none, h_meant.B, h_meant.F.kp, h_meant.M⟩
    · exact ⟨_, _, _, fn_none, h_with_names.B, h_with_names.F.kp, h_with_names.M⟩
    · exact ⟨_, _, _, fn_none, h_going_on.B, h_going_on.F.kp, h_going_on.M⟩
    · exact ⟨_, _, _, fn_none, h_called_with.B, h_called_with.F.kp, h_called_with.M⟩
    · exact ⟨_, _, _, fn_none, h_summed.B, h_summed.F.kp, h_summed.M⟩
    · exact ⟨_, _, _, fn_none, h_chosen_of.B, h_chosen_of.F.kp, h_chosen_of.M⟩
    · exact ⟨_, _, _, fn_none, h_gone_on.B, h_gone_on.F.kp, h_gone_on.M⟩
    · exact ⟨_, _, _, fn_none, h_told_of.B, h_told_of.F.kp, h_told_of.M⟩
    · exact ⟨_, _, _, fn_none, h_run_plain.B, h_run_plain.F.kp, h_run_plain.M⟩
    · exact ⟨_, _, _, fn_none, h__law_cell_at.B, h__law_cell_at.F.kp, h__law_cell_at.M⟩
    · exact ⟨_, _, _, fn_none, h__law_mixed.B, h__law_mixed.F.kp, h__law_mixed.M⟩
    · exact ⟨_, _, _, fn_none, h__law_fresh.B, h__law_fresh.F.kp, h__law_fresh.M⟩
    · exact ⟨_, _, _, fn_none, h__law_simple_by.B, h__law_simple_by.F.kp, h__law_simple_by.M⟩
    · exact ⟨_, _, _, fn_none, h__law_meant.B, h__law_meant.F.kp, h__law_meant.M⟩
    · exact ⟨_, _, _, fn_none, h__law_code_by.B, h__law_code_by.F.kp, h__law_code_by.M⟩
    · exact ⟨_, _, _, fn_none, h__law_row.B, h__law_row.F.kp, h__law_row.M⟩
    · exact ⟨_, _, _, fn_none, h__law_known_after.B, h__law_known_after.F.kp, h__law_known_after.M⟩
    · exact ⟨_, _, _, fn_none, h__law_bound.B, h__law_bound.F.kp, h__law_bound.M⟩
    · exact ⟨_, _, _, fn_none, h__law_called.B, h__law_called.F.kp, h__law_called.M⟩
    · exact ⟨_, _, _, fn_none, h__law_turned.B, h__law_turned.F.kp, h__law_turned.M⟩
    · exact ⟨_, _, _, fn_none, h__law_held.B, h__law_held.F.kp, h__law_held.M⟩
    · exact ⟨_, _, _, fn_none, h__law_behind.B, h__law_behind.F.kp, h__law_behind.M⟩
    · exact ⟨_, _, _, fn_none, h__law_held_term.B, h__law_held_term.F.kp, h__law_held_term.M⟩
    · exact ⟨_, _, _, fn_none, h__law_handed.B, h__law_handed.F.kp, h__law_handed.M⟩
    · exact ⟨_, _, _, fn_none, h__law_picked.B, h__law_picked.F.kp, h__law_picked.M⟩
    · exact ⟨_, _, _, fn_none, h__law_term.B, h__law_term.F.kp, h__law_term.M⟩
    · exact ⟨_, _, _, fn_none, h__law_end.B, h__law_end.F.kp, h__law_end.M⟩
    · exact ⟨_, _, _, fn_none, h__law_usable.B, h__law_usable.F.kp, h__law_usable.M⟩
  | k + 1, n => by
    have ih := all_ok h_is_whole h_meant h_with_names h_going_on h_called_with h_summed h_chosen_of h_gone_on h_told_of h_run_plain h__law_cell_at h__law_mixed h__law_fresh h__law_simple_by h__law_meant h__law_code_by h__law_row h__law_known_after h__law_bound h__law_called h__law_turned h__law_held h__law_behind h__law_held_term h__law_handed h__law_picked h__law_term h__law_end h__law_usable mb k
    cases n
    · exact ⟨_, _, _, Cb.FnOk.gc (ok_is_whole h_is_whole.F ih mb), h_is_whole.B, h_is_whole.F.kp, h_is_whole.M⟩
    · exact ⟨_, _, _, Cb.FnOk.gc (ok_meant h_meant.F ih mb), h_meant.B, h_meant.F.kp, h_meant.M⟩
    · exact ⟨_, _, _, Cb.FnOk.gc (ok_with_names h_with_names.F ih mb), h_with_names.B, h_with_names.F.kp, h_with_names.M⟩
    · exact ⟨_, _, _, Cb.FnOk.gc (ok_going_on h_going_on.F ih mb), h_going_on.B, h_going_on.F.kp, h_going_on.M⟩
    · exact ⟨_, _, _, Cb.FnOk.gc (ok_called_with h_called_with.F ih mb), h_called_with.B, h_called_with.F.kp, h_called_with.M⟩
    · exact ⟨_, _, _, Cb.FnOk.gc (ok_summed h_summed.F ih mb), h_summed.B, h_summed.F.kp, h_summed.M⟩
    · exact ⟨_, _, _, Cb.FnOk.gc (ok_chosen_of h_chosen_of.F ih mb), h_chosen_of.B, h_chosen_of.F.kp, h_chosen_of.M⟩
    · exact ⟨_, _, _, Cb.FnOk.gc (ok_gone_on h_gone_on.F ih mb), h_gone_on.B, h_gone_on.F.kp, h_gone_on.M⟩
    · exact ⟨_, _, _, Cb.FnOk.gc (ok_told_of h_told_of.F ih mb), h_told_of.B, h_told_of.F.kp, h_told_of.M⟩
    · exact ⟨_, _, _, Cb.FnOk.gc (ok_run_plain h_run_plain.F ih mb), h_run_plain.B, h_run_plain.F.kp, h_run_plain.M⟩
    · exact ⟨_, _, _, Cb.FnOk.gc (ok__law_cell_at h__law_cell_at.F ih mb), h__law_cell_at.B, h__law_cell_at.F.kp, h__law_cell_at.M⟩
    · exact ⟨_, _, _, Cb.FnOk.gc (ok__law_mixed h__law_mixed.F ih mb), h__law_mixed.B, h__law_mixed.F.kp, h__law_mixed.M⟩
    · exact ⟨_, _, _, Cb.FnOk.gc (ok__law_fresh h__law_fresh.F ih mb), h__law_fresh.B, h__law_fresh.F.kp, h__law_fresh.M⟩
    · exact ⟨_, _, _, Cb.FnOk.gc (ok__law_simple_by h__law_simple_by.F ih mb), h__law_simple_by.B, h__law_simple_by.F.kp, h__law_simple_by.M⟩
    · exact ⟨_, _, _, Cb.FnOk.gc (ok__law_meant h__law_meant.F ih mb), h__law_meant.B, h__law_meant.F.kp, h__law_meant.M⟩
    · exact ⟨_, _, _, Cb.FnOk.gc (ok__law_code_by h__law_code_by.F ih mb), h__law_code_by.B, h__law_code_by.F.kp, h__law_code_by.M⟩
    · exact ⟨_, _, _, Cb.FnOk.gc (ok__law_row h__law_row.F ih mb), h__law_row.B, h__law_row.F.kp, h__law_row.M⟩
    · exact ⟨_, _, _, Cb.FnOk.gc (ok__law_known_after h__law_known_after.F ih mb), h__law_known_after.B, h__law_known_after.F.kp, h__law_known_after.M⟩
    · exact ⟨_, _, _, Cb.FnOk.gc (ok__law_bound h__law_bound.F ih mb), h__law_bound.B, h__law_bound.F.kp, h__law_bound.M⟩
    · exact ⟨_, _, _, Cb.FnOk.gc (ok__law_called h__law_called.F ih mb), h__law_called.B, h__law_called.F.kp, h__law_called.M⟩
    · exact ⟨_, _, _, Cb.FnOk.gc (ok__law_turned h__law_turned.F ih mb), h__law_turned.B, h__law_turned.F.kp, h__law_turned.M⟩
    · exact ⟨_, _, _, Cb.FnOk.gc (ok__law_held h__law_held.F ih mb), h__law_held.B, h__law_held.F.kp, h__law_held.M⟩
    · exact ⟨_, _, _, Cb.FnOk.gc (ok__law_behind h__law_behind.F ih mb), h__law_behind.B, h__law_behind.F.kp, h__law_behind.M⟩
    · exact ⟨_, _, _, Cb.FnOk.gc (ok__law_held_term h__law_held_term.F ih mb), h__law_held_term.B, h__law_held_term.F.kp, h__law_held_term.M⟩
    · exact ⟨_, _, _, Cb.FnOk.gc (ok__law_handed h__law_handed.F ih mb), h__law_handed.B, h__law_handed.F.kp, h__law_handed.M⟩
    · exact ⟨_, _, _, Cb.FnOk.gc (ok__law_picked h__law_picked.F ih mb), h__law_picked.B, h__law_picked.F.kp, h__law_picked.M⟩
    · exact ⟨_, _, _, Cb.FnOk.gc (ok__law_term h__law_term.F ih mb), h__law_term.B, h__law_term.F.kp, h__law_term.M⟩
    · exact ⟨_, _, _, Cb.FnOk.gc (ok__law_end h__law_end.F ih mb), h__law_end.B, h__law_end.F.kp, h__law_end.M⟩
    · exact ⟨_, _, _, Cb.FnOk.gc (ok__law_usable h__law_usable.F ih mb), h__law_usable.B, h__law_usable.F.kp, h__law_usable.M⟩
end
def spLaw (K : PySem.W.Frag) : L2.Sp := fun vs H Q _ => ∃ (a : Addr) (ns : List Int), vs = [.ref a] ∧ SqF K H a (ns.map V.int) ∧ ns.length ≤ 63 ∧ ∀ H', Q (.bl true) H'
theorem law_imp {P : Program} {w : World} {K : PySem.W.Frag} {mg : Str → Option Value} {base : Heap} {C f : Addr} {fd : FuncData} {k n : Nat} {b : B} (hT : ∀ ns : List Int, ns.length ≤ 63 → ∃ S, fnD n b [.scr ns] [] = some (.bl true, S)) (h : FnOk P w K mg base CX0 k f fd ["_law_script"] (spF C K 1 (fnD n b))) : FnOk P w K mg base CX0 k f fd ["_law_script"] (spLaw K) :=
  h.imp fun vs H Q E ⟨a, ns, e, hS, hl, q⟩ => by
    subst e
    obtain ⟨S, hf⟩ := hT ns hl
    exact ⟨rfl, ⟨[], []⟩, [], [.scr ns], .bl true, S, .cons (.scr hS) .nil, ⟨List.nodup_nil, rfl, fun n a o h1 h2 => by simp at h1, fun a ha => by simp at ha, fun a ha => by simp at ha⟩, hf, fun v m' H' e s r => by cases r; exact q H'⟩
theorem all_mk (hT : ∀ ns : List Int, ns.length ≤ 63 → ∃ S, fnD 17 (b_law (Fk 230)) [.scr ns] [] = some (.bl true, S)) {l : PySem.W.OpenLaw} {w : World} {K : PySem.W.Frag} {h : Heap} {mg : Str → Option Value} {fa : Addr} (X : K.In h) (G : h.Ns mainGlobals mg) (hfa : mg "law" = some (.ref fa))
    {f0 : Addr} {od0 an0 : Option Addr} {sl0 : Array (Option Value)} {oc0 kV0 dc0 pm0 cd0 ct0 : Value}
    (a0 : PySem.W.nsIn K mainGlobals "is_whole" = some (some (.ref f0))) (l0 : K.lookup f0 = some ⟨oc0, od0, .func (PySem.W.fnOf "is_whole" "is_whole" (defArgs s_is_whole) (defBody s_is_whole) (defScope s_is_whole) .none kV0 dc0 pm0 an0 cd0 ct0), sl0⟩) (c0 : PySem.W.codeIn K cd0 "is_whole" = true) (k0 : PySem.W.keepIn K (.ref f0) = true)
    {f1 : Addr} {od1 an1 : Option Addr} {sl1 : Array (Option Value)} {oc1 kV1 dc1 pm1 cd1 ct1 : Value}
    (a1 : PySem.W.nsIn K mainGlobals "meant" = some (some (.ref f1))) (l1 : K.lookup f1 = some ⟨oc1, od1, .func (PySem.W.fnOf "meant" "meant" (defArgs s_meant) (defBody s_meant) (defScope s_meant) .none kV1 dc1 pm1 an1 cd1 ct1), sl1⟩) (c1 : PySem.W.codeIn K cd1 "meant" = true) (k1 : PySem.W.keepIn K (.ref f1) = true)
    {f2 : Addr} {od2 an2 : Option Addr} {sl2 : Array (Option Value)} {oc2 kV2 dc2 pm2 cd2 ct2 : Value}
    (a2 : PySem.W.nsIn K mainGlobals "with_names" = some (some (.ref f2))) (l2 : K.lookup f2 = some ⟨oc2, od2, .func (PySem.W.fnOf "with_names" "with_names" (defArgs s_with_names) (defBody s_with_names) (defScope s_with_names) .none kV2 dc2 pm2 an2 cd2 ct2), sl2⟩) (c2 : PySem.W.codeIn K cd2 "with_names" = true) (k2 : PySem.W.keepIn K (.ref f2) = true)
    {f3 : Addr} {od3 an3 : Option Addr} {sl3 : Array (Option Value)} {oc3 kV3 dc3 pm3 cd3 ct3 : Value}
    (a3 : PySem.W.nsIn K mainGlobals "going_on" = some (some (.ref f3))) (l3 : K.lookup f3 = some ⟨oc3, od3, .func (PySem.W.fnOf "going_on" "going_on" (defArgs s_going_on) (defBody s_going_on) (defScope s_going_on) .none kV3 dc3 pm3 an3 cd3 ct3), sl3⟩) (c3 : PySem.W.codeIn K cd3 "going_on" = true) (k3 : PySem.W.keepIn K (.ref f3) = true)
    {f4 : Addr} {od4 an4 : Option Addr} {sl4 : Array (Option Value)} {oc4 kV4 dc4 pm4 cd4 ct4 : Value}
    (a4 : PySem.W.nsIn K mainGlobals "called_with" = some (some (.ref f4))) (l4 : K.lookup f4 = some ⟨oc4, od4, .func (PySem.W.fnOf "called_with" "called_with" (defArgs s_called_with) (defBody s_called_with) (defScope s_called_with) .none kV4 dc4 pm4 an4 cd4 ct4), sl4⟩) (c4 : PySem.W.codeIn K cd4 "called_with" = true) (k4 : PySem.W.keepIn K (.ref f4) = true)
    {f5 : Addr} {od5 an5 : Option Addr} {sl5 : Array (Option Value)} {oc5 kV5 dc5 pm5 cd5 ct5 : Value}
    (a5 : PySem.W.nsIn K mainGlobals "summed" = some (some (.ref f5))) (l5 : K.lookup f5 = some ⟨oc5, od5, .func (PySem.W.fnOf "summed" "summed" (defArgs s_summed) (defBody s_summed) (defScope s_summed) .none kV5 dc5 pm5 an5 cd5 ct5), sl5⟩) (c5 : PySem.W.codeIn K cd5 "summed" = true) (k5 : PySem.W.keepIn K (.ref f5) = true)
    {f6 : Addr} {od6 an6 : Option Addr} {sl6 : Array (Option Value)} {oc6 kV6 dc6 pm6 cd6 ct6 : Value}
    (a6 : PySem.W.nsIn K mainGlobals "chosen_of" = some (some (.ref f6))) (l6 : K.lookup f6 = some ⟨oc6, od6, .func (PySem.W.fnOf "chosen_of" "chosen_of" (defArgs s_chosen_of) (defBody s_chosen_of) (defScope s_chosen_of) .none kV6 dc6 pm6 an6 cd6 ct6), sl6⟩) (c6 : PySem.W.codeIn K cd6 "chosen_of" = true) (k6 : PySem.W.keepIn K (.ref f6) = true)
    {f7 : Addr} {od7 an7 : Option Addr} {sl7 : Array (Option Value)} {oc7 kV7 dc7 pm7 cd7 ct7 : Value}
    (a7 : PySem.W.nsIn K mainGlobals "gone_on" = some (some (.ref f7))) (l7 : K.lookup f7 = some ⟨oc7, od7, .func (PySem.W.fnOf "gone_on" "gone_on" (defArgs s_gone_on) (defBody s_gone_on) (defScope s_gone_on) .none kV7 dc7 pm7 an7 cd7 ct7), sl7⟩) (c7 : PySem.W.codeIn K cd7 "gone_on" = true) (k7 : PySem.W.keepIn K (.ref f7) = true)
    {f8 : Addr} {od8 an8 : Option Addr} {sl8 : Array (Option Value)} {oc8 kV8 dc8 pm8 cd8 ct8 : Value}
    (a8 : PySem.W.nsIn K mainGlobals "told_of" = some (some (.ref f8))) (l8 : K.lookup f8 = some ⟨oc8, od8, .func (PySem.W.fnOf "told_of" "told_of" (defArgs s_told_of) (defBody s_told_of) (defScope s_told_of) .none kV8 dc8 pm8 an8 cd8 ct8), sl8⟩) (c8 : PySem.W.codeIn K cd8 "told_of" = true) (k8 : PySem.W.keepIn K (.ref f8) = true)
    {f9 : Addr} {od9 an9 : Option Addr} {sl9 : Array (Option Value)} {oc9 kV9 dc9 pm9 cd9 ct9 : Value}
    (a9 : PySem.W.nsIn K mainGlobals "run_plain" = some (some (.ref f9))) (l9 : K.lookup f9 = some ⟨oc9, od9, .func (PySem.W.fnOf "run_plain" "run_plain" (defArgs s_run_plain) (defBody s_run_plain) (defScope s_run_plain) .none kV9 dc9 pm9 an9 cd9 ct9), sl9⟩) (c9 : PySem.W.codeIn K cd9 "run_plain" = true) (k9 : PySem.W.keepIn K (.ref f9) = true)
    {f10 : Addr} {od10 an10 : Option Addr} {sl10 : Array (Option Value)} {oc10 kV10 dc10 pm10 cd10 ct10 : Value}
    (a10 : PySem.W.nsIn K mainGlobals "_law_cell_at" = some (some (.ref f10))) (l10 : K.lookup f10 = some ⟨oc10, od10, .func (PySem.W.fnOf "_law_cell_at" "_law_cell_at" (defArgs s__law_cell_at) (defBody s__law_cell_at) (defScope s__law_cell_at) .none kV10 dc10 pm10 an10 cd10 ct10), sl10⟩) (c10 : PySem.W.codeIn K cd10 "_law_cell_at" = true) (k10 : PySem.W.keepIn K (.ref f10) = true)
    {f11 : Addr} {od11 an11 : Option Addr} {sl11 : Array (Option Value)} {oc11 kV11 dc11 pm11 cd11 ct11 : Value}
    (a11 : PySem.W.nsIn K mainGlobals "_law_mixed" = some (some (.ref f11))) (l11 : K.lookup f11 = some ⟨oc11, od11, .func (PySem.W.fnOf "_law_mixed" "_law_mixed" (defArgs s__law_mixed) (defBody s__law_mixed) (defScope s__law_mixed) .none kV11 dc11 pm11 an11 cd11 ct11), sl11⟩) (c11 : PySem.W.codeIn K cd11 "_law_mixed" = true) (k11 : PySem.W.keepIn K (.ref f11) = true)
    {f12 : Addr} {od12 an12 : Option Addr} {sl12 : Array (Option Value)} {oc12 kV12 dc12 pm12 cd12 ct12 : Value}
    (a12 : PySem.W.nsIn K mainGlobals "_law_fresh" = some (some (.ref f12))) (l12 : K.lookup f12 = some ⟨oc12, od12, .func (PySem.W.fnOf "_law_fresh" "_law_fresh" (defArgs s__law_fresh) (defBody s__law_fresh) (defScope s__law_fresh) .none kV12 dc12 pm12 an12 cd12 ct12), sl12⟩) (c12 : PySem.W.codeIn K cd12 "_law_fresh" = true) (k12 : PySem.W.keepIn K (.ref f12) = true)
    {f13 : Addr} {od13 an13 : Option Addr} {sl13 : Array (Option Value)} {oc13 kV13 dc13 pm13 cd13 ct13 : Value}
    (a13 : PySem.W.nsIn K mainGlobals "_law_simple_by" = some (some (.ref f13))) (l13 : K.lookup f13 = some ⟨oc13, od13, .func (PySem.W.fnOf "_law_simple_by" "_law_simple_by" (defArgs s__law_simple_by) (defBody s__law_simple_by) (defScope s__law_simple_by) .none kV13 dc13 pm13 an13 cd13 ct13), sl13⟩) (c13 : PySem.W.codeIn K cd13 "_law_simple_by" = true) (k13 : PySem.W.keepIn K (.ref f13) = true)
    {f14 : Addr} {od14 an14 : Option Addr} {sl14 : Array (Option Value)} {oc14 kV14 dc14 pm14 cd14 ct14 : Value}
    (a14 : PySem.W.nsIn K mainGlobals "_law_meant" = some (some (.ref f14))) (l14 : K.lookup f14 = some ⟨oc14, od14, .func (PySem.W.fnOf "_law_meant" "_law_meant" (defArgs s__law_meant) (defBody s__law_meant) (defScope s__law_meant) .none kV14 dc14 pm14 an14 cd14 ct14), sl14⟩) (c14 : PySem.W.codeIn K cd14 "_law_meant" = true) (k14 : PySem.W.keepIn K (.ref f14) = true)
    {f15 : Addr} {od15 an15 : Option Addr} {sl15 : Array (Option Value)} {oc15 kV15 dc15 pm15 cd15 ct15 : Value}
    (a15 : PySem.W.nsIn K mainGlobals "_law_code_by" = some (some (.ref f15))) (l15 : K.lookup f15 = some ⟨oc15, od15, .func (PySem.W.fnOf "_law_code_by" "_law_code_by" (defArgs s__law_code_by) (defBody s__law_code_by) (defScope s__law_code_by) .none kV15 dc15 pm15 an15 cd15 ct15), sl15⟩) (c15 : PySem.W.codeIn K cd15 "_law_code_by" = true) (k15 : PySem.W.keepIn K (.ref f15) = true)
    {f16 : Addr} {od16 an16 : Option Addr} {sl16 : Array (Option Value)} {oc16 kV16 dc16 pm16 cd16 ct16 : Value}
    (a16 : PySem.W.nsIn K mainGlobals "_law_row" = some (some (.ref f16))) (l16 : K.lookup f16 = some ⟨oc16, od16, .func (PySem.W.fnOf "_law_row" "_law_row" (defArgs s__law_row) (defBody s__law_row) (defScope s__law_row) .none kV16 dc16 pm16 an16 cd16 ct16), sl16⟩) (c16 : PySem.W.codeIn K cd16 "_law_row" = true) (k16 : PySem.W.keepIn K (.ref f16) = true)
    {f17 : Addr} {od17 an17 : Option Addr} {sl17 : Array (Option Value)} {oc17 kV17 dc17 pm17 cd17 ct17 : Value}
    (a17 : PySem.W.nsIn K mainGlobals "_law_known_after" = some (some (.ref f17))) (l17 : K.lookup f17 = some ⟨oc17, od17, .func (PySem.W.fnOf "_law_known_after" "_law_known_after" (defArgs s__law_known_after) (defBody s__law_known_after) (defScope s__law_known_after) .none kV17 dc17 pm17 an17 cd17 ct17), sl17⟩) (c17 : PySem.W.codeIn K cd17 "_law_known_after" = true) (k17 : PySem.W.keepIn K (.ref f17) = true)
    {f18 : Addr} {od18 an18 : Option Addr} {sl18 : Array (Option Value)} {oc18 kV18 dc18 pm18 cd18 ct18 : Value}
    (a18 : PySem.W.nsIn K mainGlobals "_law_bound" = some (some (.ref f18))) (l18 : K.lookup f18 = some ⟨oc18, od18, .func (PySem.W.fnOf "_law_bound" "_law_bound" (defArgs s__law_bound) (defBody s__law_bound) (defScope s__law_bound) .none kV18 dc18 pm18 an18 cd18 ct18), sl18⟩) (c18 : PySem.W.codeIn K cd18 "_law_bound" = true) (k18 : PySem.W.keepIn K (.ref f18) = true)
    {f19 : Addr} {od19 an19 : Option Addr} {sl19 : Array (Option Value)} {oc19 kV19 dc19 pm19 cd19 ct19 : Value}
    (a19 : PySem.W.nsIn K mainGlobals "_law_called" = some (some (.ref f19))) (l19 : K.lookup f19 = some ⟨oc19, od19, .func (PySem.W.fnOf "_law_called" "_law_called" (defArgs s__law_called) (defBody s__law_called) (defScope s__law_called) .none kV19 dc19 pm19 an19 cd19 ct19), sl19⟩) (c19 : PySem.W.codeIn K cd19 "_law_called" = true) (k19 : PySem.W.keepIn K (.ref f19) = true)
    {f20 : Addr} {od20 an20 : Option Addr} {sl20 : Array (Option Value)} {oc20 kV20 dc20 pm20 cd20 ct20 : Value}
    (a20 : PySem.W.nsIn K mainGlobals "_law_turned" = some (some (.ref f20))) (l20 : K.lookup f20 = some ⟨oc20, od20, .func (PySem.W.fnOf "_law_turned" "_law_turned" (defArgs s__law_turned) (defBody s__law_turned) (defScope s__law_turned) .none kV20 dc20 pm20 an20 cd20 ct20), sl20⟩) (c20 : PySem.W.codeIn K cd20 "_law_turned" = true) (k20 : PySem.W.keepIn K (.ref f20) = true)
    {f21 : Addr} {od21 an21 : Option Addr} {sl21 : Array (Option Value)} {oc21 kV21 dc21 pm21 cd21 ct21 : Value}
    (a21 : PySem.W.nsIn K mainGlobals "_law_held" = some (some (.ref f21))) (l21 : K.lookup f21 = some ⟨oc21, od21, .func (PySem.W.fnOf "_law_held" "_law_held" (defArgs s__law_held) (defBody s__law_held) (defScope s__law_held) .none kV21 dc21 pm21 an21 cd21 ct21), sl21⟩) (c21 : PySem.W.codeIn K cd21 "_law_held" = true) (k21 : PySem.W.keepIn K (.ref f21) = true)
    {f22 : Addr} {od22 an22 : Option Addr} {sl22 : Array (Option Value)} {oc22 kV22 dc22 pm22 cd22 ct22 : Value}
    (a22 : PySem.W.nsIn K mainGlobals "_law_behind" = some (some (.ref f22))) (l22 : K.lookup f22 = some ⟨oc22, od22, .func (PySem.W.fnOf "_law_behind" "_law_behind" (defArgs s__law_behind) (defBody s__law_behind) (defScope s__law_behind) .none kV22 dc22 pm22 an22 cd22 ct22), sl22⟩) (c22 : PySem.W.codeIn K cd22 "_law_behind" = true) (k22 : PySem.W.keepIn K (.ref f22) = true)
    {f23 : Addr} {od23 an23 : Option Addr} {sl23 : Array (Option Value)} {oc23 kV23 dc23 pm23 cd23 ct23 : Value}
    (a23 : PySem.W.nsIn K mainGlobals "_law_held_term" = some (some (.ref f23))) (l23 : K.lookup f23 = some ⟨oc23, od23, .func (PySem.W.fnOf "_law_held_term" "_law_held_term" (defArgs s__law_held_term) (defBody s__law_held_term) (defScope s__law_held_term) .none kV23 dc23 pm23 an23 cd23 ct23), sl23⟩) (c23 : PySem.W.codeIn K cd23 "_law_held_term" = true) (k23 : PySem.W.keepIn K (.ref f23) = true)
    {f24 : Addr} {od24 an24 : Option Addr} {sl24 : Array (Option Value)} {oc24 kV24 dc24 pm24 cd24 ct24 : Value}
    (a24 : PySem.W.nsIn K mainGlobals "_law_handed" = some (some (.ref f24))) (l24 : K.lookup f24 = some ⟨oc24, od24, .func (PySem.W.fnOf "_law_handed" "_law_handed" (defArgs s__law_handed) (defBody s__law_handed) (defScope s__law_handed) .none kV24 dc24 pm24 an24 cd24 ct24), sl24⟩) (c24 : PySem.W.codeIn K cd24 "_law_handed" = true) (k24 : PySem.W.keepIn K (.ref f24) = true)
    {f25 : Addr} {od25 an25 : Option Addr} {sl25 : Array (Option Value)} {oc25 kV25 dc25 pm25 cd25 ct25 : Value}
    (a25 : PySem.W.nsIn K mainGlobals "_law_picked" = some (some (.ref f25))) (l25 : K.lookup f25 = some ⟨oc25, od25, .func (PySem.W.fnOf "_law_picked" "_law_picked" (defArgs s__law_picked) (defBody s__law_picked) (defScope s__law_picked) .none kV25 dc25 pm25 an25 cd25 ct25), sl25⟩) (c25 : PySem.W.codeIn K cd25 "_law_picked" = true) (k25 : PySem.W.keepIn K (.ref f25) = true)
    {f26 : Addr} {od26 an26 : Option Addr} {sl26 : Array (Option Value)} {oc26 kV26 dc26 pm26 cd26 ct26 : Value}
    (a26 : PySem.W.nsIn K mainGlobals "_law_term" = some (some (.ref f26))) (l26 : K.lookup f26 = some ⟨oc26, od26, .func (PySem.W.fnOf "_law_term" "_law_term" (defArgs s__law_term) (defBody s__law_term) (defScope s__law_term) .none kV26 dc26 pm26 an26 cd26 ct26), sl26⟩) (c26 : PySem.W.codeIn K cd26 "_law_term" = true) (k26 : PySem.W.keepIn K (.ref f26) = true)
    {f27 : Addr} {od27 an27 : Option Addr} {sl27 : Array (Option Value)} {oc27 kV27 dc27 pm27 cd27 ct27 : Value}
    (a27 : PySem.W.nsIn K mainGlobals "_law_end" = some (some (.ref f27))) (l27 : K.lookup f27 = some ⟨oc27, od27, .func (PySem.W.fnOf "_law_end" "_law_end" (defArgs s__law_end) (defBody s__law_end) (defScope s__law_end) .none kV27 dc27 pm27 an27 cd27 ct27), sl27⟩) (c27 : PySem.W.codeIn K cd27 "_law_end" = true) (k27 : PySem.W.keepIn K (.ref f27) = true)
    {f28 : Addr} {od28 an28 : Option Addr} {sl28 : Array (Option Value)} {oc28 kV28 dc28 pm28 cd28 ct28 : Value}
    (a28 : PySem.W.nsIn K mainGlobals "_law_usable" = some (some (.ref f28))) (l28 : K.lookup f28 = some ⟨oc28, od28, .func (PySem.W.fnOf "_law_usable" "_law_usable" (defArgs s__law_usable) (defBody s__law_usable) (defScope s__law_usable) .none kV28 dc28 pm28 an28 cd28 ct28), sl28⟩) (c28 : PySem.W.codeIn K cd28 "_law_usable" = true) (k28 : PySem.W.keepIn K (.ref f28) = true)
    {f29 : Addr} {od29 an29 : Option Addr} {sl29 : Array (Option Value)} {oc29 kV29 dc29 pm29 cd29 ct29 : Value}
    (a29 : PySem.W.nsIn K mainGlobals "law" = some (some (.ref f29))) (l29 : K.lookup f29 = some ⟨oc29, od29, .func (PySem.W.fnOf "law" "law" (defArgs s_law) (defBody s_law) (defScope s_law) .none kV29 dc29 pm29 an29 cd29 ct29), sl29⟩) (c29 : PySem.W.codeIn K cd29 "law" = true) (k29 : PySem.W.keepIn K (.ref f29) = true)
    (z_bool : PySem.W.nsIn K mainGlobals "bool" = some none)
    (z_dict : PySem.W.nsIn K mainGlobals "dict" = some none)
    (z_enumerate : PySem.W.nsIn K mainGlobals "enumerate" = some none)
    (z_int : PySem.W.nsIn K mainGlobals "int" = some none)
    (z_isinstance : PySem.W.nsIn K mainGlobals "isinstance" = some none)
    (z_len : PySem.W.nsIn K mainGlobals "len" = some none)
    (z_list : PySem.W.nsIn K mainGlobals "list" = some none)
    (z_range : PySem.W.nsIn K mainGlobals "range" = some none)
    (z_sorted : PySem.W.nsIn K mainGlobals "sorted" = some none)
    (z_str : PySem.W.nsIn K mainGlobals "str" = some none)
    (z_tuple : PySem.W.nsIn K mainGlobals "tuple" = some none)
    (z_zip : PySem.W.nsIn K mainGlobals "zip" = some none)
    {t_MOST_FUEL : Tok} (z_MOST_FUEL : PySem.W.nsIn K mainGlobals "MOST_FUEL" = some (some (.int 1000000 t_MOST_FUEL)))
    : ∃ fd : FuncData, (∀ (s : Shared) (v : Value), BindsTo s fd ⟨[v], []⟩ [("_law_script", v)]) ∧ ∀ base : Heap, K.In base → base.Ns mainGlobals mg → FnOk l.prog w K mg base CX0 231 fa fd ["_law_script"] (spLaw K) := by
  have e := hfa.symm.trans (PySem.W.mg_of X G a29)
  cases e
  have F0 := fun_mk (st := s_is_whole) l0 c0 k0
  have D0 : DefOk K mg "is_whole" s_is_whole ["thing"] f0 _ := ⟨F0, F0.binds (ps := ["thing"]) fun _ _ _ _ _ _ us hl => match us, hl with | [_], _ => rfl, PySem.W.mg_of X G a0⟩
  have F1 := fun_mk (st := s_meant) l1 c1 k1
  have D1 : DefOk K mg "meant" s_meant ["term", "environment"] f1 _ := ⟨F1, F1.binds (ps := ["term", "environment"]) fun _ _ _ _ _ _ us hl => match us, hl with | [_, _], _ => rfl, PySem.W.mg_of X G a1⟩
  have F2 := fun_mk (st := s_with_names) l2 c2 k2
  have D2 : DefOk K mg "with_names" s_with_names ["environment", "names", "values"] f2 _ := ⟨F2, F2.binds (ps := ["environment", "names", "values"]) fun _ _ _ _ _ _ us hl => match us, hl with | [_, _, _], _ => rfl, PySem.W.mg_of X G a2⟩
  have F3 := fun_mk (st := s_going_on) l3 c3 k3
  have D3 : DefOk K mg "going_on" s_going_on ["k", "value", "g"] f3 _ := ⟨F3, F3.binds (ps := ["k", "value", "g"]) fun _ _ _ _ _ _ us hl => match us, hl with | [_, _, _], _ => rfl, PySem.W.mg_of X G a3⟩
  have F4 := fun_mk (st := s_called_with) l4 c4 k4
  have D4 : DefOk K mg "called_with" s_called_with ["term", "environment"] f4 _ := ⟨F4, F4.binds (ps := ["term", "environment"]) fun _ _ _ _ _ _ us hl => match us, hl with | [_, _], _ => rfl, PySem.W.mg_of X G a4⟩
  have F5 := fun_mk (st := s_summed) l5 c5 k5
  have D5 : DefOk K mg "summed" s_summed ["term", "environment"] f5 _ := ⟨F5, F5.binds (ps := ["term", "environment"]) fun _ _ _ _ _ _ us hl => match us, hl with | [_, _], _ => rfl, PySem.W.mg_of X G a5⟩
  have F6 := fun_mk (st := s_chosen_of) l6 c6 k6
  have D6 : DefOk K mg "chosen_of" s_chosen_of ["term", "environment"] f6 _ := ⟨F6, F6.binds (ps := ["term", "environment"]) fun _ _ _ _ _ _ us hl => match us, hl with | [_, _], _ => rfl, PySem.W.mg_of X G a6⟩
  have F7 := fun_mk (st := s_gone_on) l7 c7 k7
  have D7 : DefOk K mg "gone_on" s_gone_on ["term", "environment"] f7 _ := ⟨F7, F7.binds (ps := ["term", "environment"]) fun _ _ _ _ _ _ us hl => match us, hl with | [_, _], _ => rfl, PySem.W.mg_of X G a7⟩
  have F8 := fun_mk (st := s_told_of) l8 c8 k8
  have D8 : DefOk K mg "told_of" s_told_of ["value"] f8 _ := ⟨F8, F8.binds (ps := ["value"]) fun _ _ _ _ _ _ us hl => match us, hl with | [_], _ => rfl, PySem.W.mg_of X G a8⟩
  have F9 := fun_mk (st := s_run_plain) l9 c9 k9
  have D9 : DefOk K mg "run_plain" s_run_plain ["term", "fuel"] f9 _ := ⟨F9, F9.binds (ps := ["term", "fuel"]) fun _ _ _ _ _ _ us hl => match us, hl with | [_, _], _ => rfl, PySem.W.mg_of X G a9⟩
  have F10 := fun_mk (st := s__law_cell_at) l10 c10 k10
  have D10 : DefOk K mg "_law_cell_at" s__law_cell_at ["_law_script", "_law_k"] f10 _ := ⟨F10, F10.binds (ps := ["_law_script", "_law_k"]) fun _ _ _ _ _ _ us hl => match us, hl with | [_, _], _ => rfl, PySem.W.mg_of X G a10⟩
  have F11 := fun_mk (st := s__law_mixed) l11 c11 k11
  have D11 : DefOk K mg "_law_mixed" s__law_mixed ["_law_number"] f11 _ := ⟨F11, F11.binds (ps := ["_law_number"]) fun _ _ _ _ _ _ us hl => match us, hl with | [_], _ => rfl, PySem.W.mg_of X G a11⟩
  have F12 := fun_mk (st := s__law_fresh) l12 c12 k12
  have D12 : DefOk K mg "_law_fresh" s__law_fresh ["_law_mix"] f12 _ := ⟨F12, F12.binds (ps := ["_law_mix"]) fun _ _ _ _ _ _ us hl => match us, hl with | [_], _ => rfl, PySem.W.mg_of X G a12⟩
  have F13 := fun_mk (st := s__law_simple_by) l13 c13 k13
  have D13 : DefOk K mg "_law_simple_by" s__law_simple_by ["_law_known", "_law_mix"] f13 _ := ⟨F13, F13.binds (ps := ["_law_known", "_law_mix"]) fun _ _ _ _ _ _ us hl => match us, hl with | [_, _], _ => rfl, PySem.W.mg_of X G a13⟩
  have F14 := fun_mk (st := s__law_meant) l14 c14 k14
  have D14 : DefOk K mg "_law_meant" s__law_meant ["_law_term_here", "_law_known"] f14 _ := ⟨F14, F14.binds (ps := ["_law_term_here", "_law_known"]) fun _ _ _ _ _ _ us hl => match us, hl with | [_, _], _ => rfl, PySem.W.mg_of X G a14⟩
  have F15 := fun_mk (st := s__law_code_by) l15 c15 k15
  have D15 : DefOk K mg "_law_code_by" s__law_code_by ["_law_known", "_law_mix"] f15 _ := ⟨F15, F15.binds (ps := ["_law_known", "_law_mix"]) fun _ _ _ _ _ _ us hl => match us, hl with | [_, _], _ => rfl, PySem.W.mg_of X G a15⟩
  have F16 := fun_mk (st := s__law_row) l16 c16 k16
  have D16 : DefOk K mg "_law_row" s__law_row ["_law_known", "_law_mix"] f16 _ := ⟨F16, F16.binds (ps := ["_law_known", "_law_mix"]) fun _ _ _ _ _ _ us hl => match us, hl with | [_, _], _ => rfl, PySem.W.mg_of X G a16⟩
  have F17 := fun_mk (st := s__law_known_after) l17 c17 k17
  have D17 : DefOk K mg "_law_known_after" s__law_known_after ["_law_known", "_law_names", "_law_values"] f17 _ := ⟨F17, F17.binds (ps := ["_law_known", "_law_names", "_law_values"]) fun _ _ _ _ _ _ us hl => match us, hl with | [_, _, _], _ => rfl, PySem.W.mg_of X G a17⟩
  have F18 := fun_mk (st := s__law_bound) l18 c18 k18
  have D18 : DefOk K mg "_law_bound" s__law_bound ["_law_row_here", "_law_known", "_law_value", "_law_step"] f18 _ := ⟨F18, F18.binds (ps := ["_law_row_here", "_law_known", "_law_value", "_law_step"]) fun _ _ _ _ _ _ us hl => match us, hl with | [_, _, _, _], _ => rfl, PySem.W.mg_of X G a18⟩
  have F19 := fun_mk (st := s__law_called) l19 c19 k19
  have D19 : DefOk K mg "_law_called" s__law_called ["_law_row_here", "_law_known", "_law_values"] f19 _ := ⟨F19, F19.binds (ps := ["_law_row_here", "_law_known", "_law_values"]) fun _ _ _ _ _ _ us hl => match us, hl with | [_, _, _], _ => rfl, PySem.W.mg_of X G a19⟩
  have F20 := fun_mk (st := s__law_turned) l20 c20 k20
  have D20 : DefOk K mg "_law_turned" s__law_turned ["_law_row_here", "_law_known"] f20 _ := ⟨F20, F20.binds (ps := ["_law_row_here", "_law_known"]) fun _ _ _ _ _ _ us hl => match us, hl with | [_, _], _ => rfl, PySem.W.mg_of X G a20⟩
  have F21 := fun_mk (st := s__law_held) l21 c21 k21
  have D21 : DefOk K mg "_law_held" s__law_held ["_law_row_here", "_law_known", "_law_values"] f21 _ := ⟨F21, F21.binds (ps := ["_law_row_here", "_law_known", "_law_values"]) fun _ _ _ _ _ _ us hl => match us, hl with | [_, _, _], _ => rfl, PySem.W.mg_of X G a21⟩
  have F22 := fun_mk (st := s__law_behind) l22 c22 k22
  have D22 : DefOk K mg "_law_behind" s__law_behind ["_law_row_here", "_law_known"] f22 _ := ⟨F22, F22.binds (ps := ["_law_row_here", "_law_known"]) fun _ _ _ _ _ _ us hl => match us, hl with | [_, _], _ => rfl, PySem.W.mg_of X G a22⟩
  have F23 := fun_mk (st := s__law_held_term) l23 c23 k23
  have D23 : DefOk K mg "_law_held_term" s__law_held_term ["_law_row_here", "_law_inner", "_law_known"] f23 _ := ⟨F23, F23.binds (ps := ["_law_row_here", "_law_inner", "_law_known"]) fun _ _ _ _ _ _ us hl => match us, hl with | [_, _, _], _ => rfl, PySem.W.mg_of X G a23⟩
  have F24 := fun_mk (st := s__law_handed) l24 c24 k24
  have D24 : DefOk K mg "_law_handed" s__law_handed ["_law_row_here", "_law_inner"] f24 _ := ⟨F24, F24.binds (ps := ["_law_row_here", "_law_inner"]) fun _ _ _ _ _ _ us hl => match us, hl with | [_, _], _ => rfl, PySem.W.mg_of X G a24⟩
  have F25 := fun_mk (st := s__law_picked) l25 c25 k25
  have D25 : DefOk K mg "_law_picked" s__law_picked ["_law_row_here", "_law_inner", "_law_known"] f25 _ := ⟨F25, F25.binds (ps := ["_law_row_here", "_law_inner", "_law_known"]) fun _ _ _ _ _ _ us hl => match us, hl with | [_, _, _], _ => rfl, PySem.W.mg_of X G a25⟩
  have F26 := fun_mk (st := s__law_term) l26 c26 k26
  have D26 : DefOk K mg "_law_term" s__law_term ["_law_row_here", "_law_inner", "_law_known"] f26 _ := ⟨F26, F26.binds (ps := ["_law_row_here", "_law_inner", "_law_known"]) fun _ _ _ _ _ _ us hl => match us, hl with | [_, _, _], _ => rfl, PySem.W.mg_of X G a26⟩
  have F27 := fun_mk (st := s__law_end) l27 c27 k27
  have D27 : DefOk K mg "_law_end" s__law_end ["_law_value"] f27 _ := ⟨F27, F27.binds (ps := ["_law_value"]) fun _ _ _ _ _ _ us hl => match us, hl with | [_], _ => rfl, PySem.W.mg_of X G a27⟩
  have F28 := fun_mk (st := s__law_usable) l28 c28 k28
  have D28 : DefOk K mg "_law_usable" s__law_usable ["_law_known"] f28 _ := ⟨F28, F28.binds (ps := ["_law_known"]) fun _ _ _ _ _ _ us hl => match us, hl with | [_], _ => rfl, PySem.W.mg_of X G a28⟩
  have F29 := fun_mk (st := s_law) l29 c29 k29
  have mb : Mb K mg := ⟨PySem.W.mg_none_of X G z_bool, PySem.W.mg_none_of X G z_dict, PySem.W.mg_none_of X G z_enumerate, PySem.W.mg_none_of X G z_int, PySem.W.mg_none_of X G z_isinstance, PySem.W.mg_none_of X G z_len, PySem.W.mg_none_of X G z_list, PySem.W.mg_none_of X G z_range, PySem.W.mg_none_of X G z_sorted, PySem.W.mg_none_of X G z_str, PySem.W.mg_none_of X G z_tuple, PySem.W.mg_none_of X G z_zip, ⟨_, PySem.W.mg_of X G z_MOST_FUEL⟩⟩
  refine ⟨PySem.W.fnOf "law" "law" (defArgs s_law) (defBody s_law) (defScope s_law) .none kV29 dc29 pm29 an29 cd29 ct29, fun s v => .of_eq rfl, fun base _ _ => ?_⟩
  exact law_imp hT (ok_law (C := 0) F29 (all_ok D0 D1 D2 D3 D4 D5 D6 D7 D8 D9 D10 D11 D12 D13 D14 D15 D16 D17 D18 D19 D20 D21 D22 D23 D24 D25 D26 D27 D28 mb 230) mb)
theorem walk {l : PySem.W.OpenLaw} {q : Program} {loose : List Str} {XP : (Str → Option Value) → Heap → Prop} {YP : World → Heap → Prop} {d : DefRec} {K : Params → PySem.W.Frag} (hn : l.most = some 63) (hdf : d.params.defaults = [])
    (hY : ∀ (w : World) (h : Heap), YP w h → (K w.params).In h)
    (F : ∀ (w : World) (mg : Str → Option Value) (fa : Addr) (h : Heap), (K w.params).In h → h.Ns mainGlobals mg → mg d.name = some (.ref fa) →
      ∃ fd : FuncData, (∀ (s : Shared) (u : Value), BindsTo s fd ⟨[u], []⟩ [("_law_script", u)]) ∧ ∀ base : Heap, (K w.params).In base → base.Ns mainGlobals mg → FnOk l.prog w (K w.params) mg base CX0 231 fa fd ["_law_script"] (spLaw (K w.params))) :
    PySem.W.WalkO q loose XP YP l.row.toRowW d [] (fun f vs => PySem.call f vs) :=
  L2.walk_of (n := 63) (k := 231) (x := "_law_script") (CX := fun _ => CX0) (sp := fun w => spLaw (K w.params)) hn (by decide) hdf ⟨rfl, by decide, by decide⟩ hY F (fun _ _ a ns hl ho hS => ⟨a, ns, rfl, sqF_of ho hS, hl, fun _ => rfl⟩) fun _ _ _ _ _ z => z
end Cb
open PySem PySem.W PyProof.Rows
set_option maxRecDepth 100000 in
set_option maxHeartbeats 0 in
theorem PySem.Challenge.cw_cutback_k07_plain_terms_run_holds : PySem.Challenge.rw_cutback_k07_plain_terms_run.Holds := by
  w_on; o_law; k_head; (case hw => w_witness2)
  k_fill
  refine Cb.walk (l := PySem.Challenge.rw_cutback_k07_plain_terms_run) rfl rfl (fun w h Y => PySem.W.kIn_of Y) ?F
  case F =>
    intro w mg fa h KX G hmg
    refine' Cb.all_mk Cb.law_true KX G hmg ?a0 ?l0 ?c0 ?k0 ?a1 ?l1 ?c1 ?k1 ?a2 ?l2 ?c2 ?k2 ?a3 ?l3 ?c3 ?k3 ?a4 ?l4 ?c4 ?k4 ?a5 ?l5 ?c5 ?k5 ?a6 ?l6 ?c6 ?k6 ?a7 ?l7 ?c7 ?k7 ?a8 ?l8 ?c8 ?k8 ?a9 ?l9 ?c9 ?k9 ?a10 ?l10 ?c10 ?k10 ?a11 ?l11 ?c11 ?k11 ?a12 ?l12 ?c12 ?k12 ?a13 ?l13 ?c13 ?k13 ?a14 ?l14 ?c14 ?k14 ?a15 ?l15 ?c15 ?k15 ?a16 ?l16 ?c16 ?k16 ?a17 ?l17 ?c17 ?k17 ?a18 ?l18 ?c18 ?k18 ?a19 ?l19 ?c19 ?k19 ?a20 ?l20 ?c20 ?k20 ?a21 ?l21 ?c21 ?k21 ?a22 ?l22 ?c22 ?k22 ?a23 ?l23 ?c23 ?k23 ?a24 ?l24 ?c24 ?k24 ?a25 ?l25 ?c25 ?k25 ?a26 ?l26 ?c26 ?k26 ?a27 ?l27 ?c27 ?k27 ?a28 ?l28 ?c28 ?k28 ?a29 ?l29 ?c29 ?k29 ?z_bool ?z_dict ?z_enumerate ?z_int ?z_isinstance ?z_len ?z_list ?z_range ?z_sorted ?z_str ?z_tuple ?z_zip ?z_MOST_FUEL
    (case a0 => k_is)
    (case l0 => k_is)
    (case c0 => k_is)
    (case k0 => k_is)
    (case a1 => k_is)
    (case l1 => k_is)
    (case c1 => k_is)
    (case k1 => k_is)
    (case a2 => k_is)
    (case l2 => k_is)
    (case c2 => k_is)
    (case k2 => k_is)
    (case a3 => k_is)
    (case l3 => k_is)
    (case c3 => k_is)
    (case k3 => k_is)
    (case a4 => k_is)
    (case l4 => k_is)
    (case c4 => k_is)
    (case k4 => k_is)
    (case a5 => k_is)
    (case l5 => k_is)
    (case c5 => k_is)
    (case k5 => k_is)
    (case a6 => k_is)
    (case l6 => k_is)
    (case c6 => k_is)
    (case k6 => k_is)
    (case a7 => k_is)
    (case l7 => k_is)
    (case c7 => k_is)
    (case k7 => k_is)
    (case a8 => k_is)
    (case l8 => k_is)
    (case c8 => k_is)
    (case k8 => k_is)
    (case a9 => k_is)
    (case l9 => k_is)
    (case c9 => k_is)
    (case k9 => k_is)
    (case a10 => k_is)
    (case l10 => k_is)
    (case c10 => k_is)
    (case k10 => k_is)
    (case a11 => k_is)
    (case l11 => k_is)
    (case c11 => k_is)
    (case k11 => k_is)
    (case a12 => k_is)
    (case l12 => k_is)
    (case c12 => k_is)
    (case k12 => k_is)
    (case a13 => k_is)
    (case l13 => k_is)
    (case c13 => k_is)
    (case k13 => k_is)
    (case a14 => k_is)
    (case l14 => k_is)
    (case c14 => k_is)
    (case k14 => k_is)
    (case a15 => k_is)
    (case l15 => k_is)
    (case c15 => k_is)
    (case k15 => k_is)
    (case a16 => k_is)
    (case l16 => k_is)
    (case c16 => k_is)
    (case k16 => k_is)
    (case a17 => k_is)
    (case l17 => k_is)
    (case c17 => k_is)
    (case k17 => k_is)
    (case a18 => k_is)
    (case l18 => k_is)
    (case c18 => k_is)
    (case k18 => k_is)
    (case a19 => k_is)
    (case l19 => k_is)
    (case c19 => k_is)
    (case k19 => k_is)
    (case a20 => k_is)
    (case l20 => k_is)
    (case c20 => k_is)
    (case k20 => k_is)
    (case a21 => k_is)
    (case l21 => k_is)
    (case c21 => k_is)
    (case k21 => k_is)
    (case a22 => k_is)
    (case l22 => k_is)
    (case c22 => k_is)
    (case k22 => k_is)
    (case a23 => k_is)
    (case l23 => k_is)
    (case c23 => k_is)
    (case k23 => k_is)
    (case a24 => k_is)
    (case l24 => k_is)
    (case c24 => k_is)
    (case k24 => k_is)
    (case a25 => k_is)
    (case l25 => k_is)
    (case c25 => k_is)
    (case k25 => k_is)
    (case a26 => k_is)
    (case l26 => k_is)
    (case c26 => k_is)
    (case k26 => k_is)
    (case a27 => k_is)
    (case l27 => k_is)
    (case c27 => k_is)
    (case k27 => k_is)
    (case a28 => k_is)
    (case l28 => k_is)
    (case c28 => k_is)
    (case k28 => k_is)
    (case a29 => k_is)
    (case l29 => k_is)
    (case c29 => k_is)
    (case k29 => k_is)
    (case z_bool => k_is)
    (case z_dict => k_is)
    (case z_enumerate => k_is)
    (case z_int => k_is)
    (case z_isinstance => k_is)
    (case z_len => k_is)
    (case z_list => k_is)
    (case z_range => k_is)
    (case z_sorted => k_is)
    (case z_str => k_is)
    (case z_tuple => k_is)
    (case z_zip => k_is)
    (case z_MOST_FUEL => k_is)
#print axioms PySem.Challenge.cw_cutback_k07_plain_terms_run_holds
