import PyProof.Rows.All
import Wide.All
import OpenK.AllK
import Wide.FinOn
import HandS.ForMost
import HandS.Zip
import HandS.TupAny
import HandS.Flow
import HandS.IsInst
import HandS.Conv
import HandS.Wide
import HandS.Style
import HandS.Deep
import KE.GoesNew
import KE.GoesMore
import HandS.Strs
import HandS.TryOnly
import HandS.SetFor
import HandS.SetTxt0
import PySem.Challenge.RW_cutback_k01_free_names
set_option Elab.async false
set_option linter.all false
set_option maxRecDepth 100000
set_option maxHeartbeats 4000000
namespace Cb
open PySem L2

/-! ## data, without addresses -/
inductive D where
  | non | bl (b : Bool) | int (i : Int) | str (x : Str)
  | tup (xs : List D) | lst (xs : List D) | scr (ns : List Int) | dic (ks : List (Key × D)) | ref (n : Nat)
  /-- a tuple that surely has no dict; a def of the main module -/
  | tun (xs : List D) | fn (x : Str)
inductive O where
  | lst (xs : List D) | dic (ks : List (Key × D)) | ins (fs : List (Str × D))
instance : Inhabited D := ⟨.non⟩

/-- the law's list: never written -/
def SqF (K : PySem.W.Frag) (H : Hp) (a : Addr) (xs : List V) : Prop :=
  (∃ o, H a = some (.frz o (.lst xs))) ∨
    ∃ (o : Obj) (its : Array Value) (n : Nat), K.lookup a = some o ∧ o.cls = .type "list" ∧ o.dict = none ∧ o.data = .seq its n ∧ its.size ≤ sizeLine ∧ Vals xs its.toList
theorem SqF.sq {K : PySem.W.Frag} {H : Hp} {a : Addr} {xs : List V} (h : SqF K H a xs) : SqL K H a xs := by
  rcases h with h | h
  · exact .inl (.inr h)
  · exact .inr h

/-- the addresses of the changing objects, by number; those that are hidden (a comprehension's list while it grows) -/
structure M where
  l : List Addr
  b : List Addr
def M.has (m : M) (a : Addr) : Prop := a ∈ m.l ∨ a ∈ m.b
def M.add (m : M) (a : Addr) : M := ⟨m.l ++ [a], m.b⟩
def M.hide (m : M) (a : Addr) : M := ⟨m.l, a :: m.b⟩

mutual
inductive Rp (K : PySem.W.Frag) (m : M) (H : Hp) : V → D → Prop
  | non : Rp K m H .non .non
  | bl (b : Bool) : Rp K m H (.bl b) (.bl b)
  | int (i : Int) : Rp K m H (.int i) (.int i)
  | str (x : Str) : Rp K m H (.str x) (.str x)
  | tup {a : Addr} {xs : List V} {ds : List D} : SqT K H a xs → RpAll K m H xs ds → Rp K m H (.ref a) (.tup ds)
  | lst {a : Addr} {xs : List V} {ds : List D} : H a = some (.lst xs) → ¬ m.has a → RpAll K m H xs ds → Rp K m H (.ref a) (.lst ds)
  | scr {a : Addr} {ns : List Int} : SqF K H a (ns.map V.int) → Rp K m H (.ref a) (.scr ns)
  | dic {a : Addr} {kvs : List (Key × V)} {ks : List (Key × D)} : H a = some (.dK kvs) → ¬ m.has a → kvs.map (·.1) = ks.map (·.1) → RpAll K m H (kvs.map (·.2)) (ks.map (·.2)) → Rp K m H (.ref a) (.dic ks)
  | ref {a : Addr} {n : Nat} : m.l[n]? = some a → Rp K m H (.ref a) (.ref n)
  | tun {a : Addr} {ob : Obj} {xs : List V} {ds : List D} : H a = some (.frz ob (.tup xs)) → ob.dict = Option.none → ob.cls = .type "tuple" → RpAll K m H xs ds → Rp K m H (.ref a) (.tun ds)
  | fn {a : Addr} {x : Str} : PySem.W.nsIn K mainGlobals x = some (some (.ref a)) → Rp K m H (.ref a) (.fn x)
inductive RpAll (K : PySem.W.Frag) (m : M) (H : Hp) : List V → List D → Prop
  | nil : RpAll K m H [] []
  | cons {v : V} {vs : List V} {d : D} {ds : List D} : Rp K m H v d → RpAll K m H vs ds → RpAll K m H (v :: vs) (d :: ds)
end

/-- what may happen to a heap and its changing objects -/
structure Ev (m : M) (H : Hp) (m' : M) (H' : Hp) : Prop where
  pre : ∃ l, m'.l = m.l ++ l
  hid : m'.b = m.b
  new : ∀ a, a ∈ m'.l → a ∈ m.l ∨ H a = none
  keep : ∀ a o, H a = some o → a ∉ m.l → H' a = some o
  tup : ∀ a xs, H a = some (.tup xs) → H' a = some (.tup xs)
  frz : ∀ a o u, H a = some (.frz o u) → H' a = some (.frz o u)

section
variable {K : PySem.W.Frag} {m m' m'' : M} {H H' H'' : Hp}
theorem Ev.refl : Ev m H m H := ⟨⟨[], by simp⟩, rfl, fun _ h => .inl h, fun _ _ h _ => h, fun _ _ h => h, fun _ _ _ h => h⟩
theorem Ev.trans (a : Ev m H m' H') (b : Ev m' H' m'' H'') : Ev m H m'' H'' where
  pre := by
    obtain ⟨l, e⟩ := a.pre
    obtain ⟨l', e'⟩ := b.pre
    exact ⟨l ++ l', by rw [e', e, List.append_assoc]⟩
  hid := b.hid.trans a.hid
  new := fun x hx => by
    rcases b.new x hx with h | h
    · exact a.new x h
    · by_cases hm : x ∈ m.l
      · exact .inl hm
      · cases e : H x with
        | none => exact .inr rfl
        | some o => rw [a.keep x o e hm] at h; cases h
  keep := fun x o h hm => by
    have h1 := a.keep x o h hm
    refine b.keep x o h1 fun hx => ?_
    rcases a.new x hx with q | q
    · exact hm q
    · rw [h] at q; cases q
  tup := fun x xs h => b.tup x xs (a.tup x xs h)
  frz := fun x o u h => b.frz x o u (a.frz x o u h)
/-- a new object, not a changing one -/
theorem Ev.lay {p : Addr} {o : HO} (h : H p = none) : Ev m H m (upd H p o) :=
  ⟨⟨[], by simp⟩, rfl, fun _ h => .inl h, fun a u q _ => by rw [upd_ne (ne_of_none q h)]; exact q, fun a u q => by rw [upd_ne (ne_of_none q h)]; exact q, fun a u v q => by rw [upd_ne (ne_of_none q h)]; exact q⟩
/-- a new object is made a changing one -/
theorem Ev.add {p : Addr} (e : Ev m H m' H') (h : H p = none) : Ev m H (m'.add p) H' where
  pre := by
    obtain ⟨l, q⟩ := e.pre
    exact ⟨l ++ [p], by show m'.l ++ [p] = _; rw [q, List.append_assoc]⟩
  hid := e.hid
  new := fun a ha => by
    rcases List.mem_append.mp ha with q | q
    · exact e.new a q
    · rw [List.mem_singleton] at q; subst q; exact .inr h
  keep := e.keep
  tup := e.tup
  frz := e.frz
/-- a changing object is changed -/
theorem Ev.set {p : Addr} {o u : HO} (hp : p ∈ m.l) (h : H p = some u) (ht : ∀ xs, u ≠ .tup xs) (hf : ∀ o v, u ≠ .frz o v) : Ev m H m (upd H p o) :=
  ⟨⟨[], by simp⟩, rfl, fun _ h => .inl h, fun a v q hm => by rw [upd_ne (fun e => hm (by rw [e]; exact hp))]; exact q,
    fun a v q => by
      rw [upd_ne (fun e => by subst e; rw [h] at q; exact ht _ (Option.some.inj q))]; exact q,
    fun a v w q => by
      rw [upd_ne (fun e => by subst e; rw [h] at q; exact hf _ _ (Option.some.inj q))]; exact q⟩
theorem Ev.sqT (e : Ev m H m' H') {a : Addr} {xs : List V} (h : SqT K H a xs) : SqT K H' a xs := by
  rcases h with (h | ⟨o, h⟩) | h
  · exact .inl (.inl (e.tup _ _ h))
  · exact .inl (.inr ⟨o, e.frz _ _ _ h⟩)
  · exact .inr h
theorem Ev.sqF (e : Ev m H m' H') {a : Addr} {xs : List V} (h : SqF K H a xs) : SqF K H' a xs := by
  rcases h with ⟨o, h⟩ | h
  · exact .inl ⟨o, e.frz _ _ _ h⟩
  · exact .inr h
theorem Ev.notin (e : Ev m H m' H') {a : Addr} {o : HO} (h : H a = some o) (hm : ¬ m.has a) : ¬ m'.has a := fun q => by
  rcases q with q | q
  · rcases e.new a q with x | x
    · exact hm (.inl x)
    · rw [h] at x; cases x
  · rw [e.hid] at q
    exact hm (.inr q)
theorem Ev.at (e : Ev m H m' H') {n : Nat} {a : Addr} (h : m.l[n]? = some a) : m'.l[n]? = some a := by
  obtain ⟨l, q⟩ := e.pre
  rw [q]
  have hl : n < m.l.length := (List.getElem?_eq_some_iff.mp h).1
  rw [List.getElem?_append_left hl]
  exact h
mutual
theorem Rp.ev (e : Ev m H m' H') : ∀ {v : V} {d : D}, Rp K m H v d → Rp K m' H' v d
  | _, _, .non => .non
  | _, _, .bl b => .bl b
  | _, _, .int i => .int i
  | _, _, .str x => .str x
  | _, _, .tup h r => .tup (e.sqT h) (RpAll.ev e r)
  | _, _, .lst h n r => .lst (e.keep _ _ h fun z => n (.inl z)) (e.notin h n) (RpAll.ev e r)
  | _, _, .scr h => .scr (e.sqF h)
  | _, _, .dic h n k r => .dic (e.keep _ _ h fun z => n (.inl z)) (e.notin h n) k (RpAll.ev e r)
  | _, _, .ref h => .ref (e.at h)
  | _, _, .tun h h1 h2 r => .tun (e.frz _ _ _ h) h1 h2 (RpAll.ev e r)
  | _, _, .fn h => .fn h
theorem RpAll.ev (e : Ev m H m' H') : ∀ {vs : List V} {ds : List D}, RpAll K m H vs ds → RpAll K m' H' vs ds
  | _, _, .nil => .nil
  | _, _, .cons r rs => .cons (Rp.ev e r) (RpAll.ev e rs)
end
theorem RpAll.length : ∀ {vs : List V} {ds : List D}, RpAll K m H vs ds → vs.length = ds.length
  | _, _, .nil => rfl
  | _, _, .cons _ rs => by simp [RpAll.length rs]
theorem RpAll.get : ∀ {vs : List V} {ds : List D} {i : Nat} {d : D}, RpAll K m H vs ds → ds[i]? = some d → ∃ v, vs[i]? = some v ∧ Rp K m H v d
  | _, _, _, _, .nil, h => by simp at h
  | _, _, 0, _, .cons r _, h => ⟨_, rfl, by simp at h; subst h; exact r⟩
  | _, _, i + 1, _, .cons _ rs, h => by
    obtain ⟨v, h1, h2⟩ := RpAll.get (i := i) rs (by simpa using h)
    exact ⟨v, by simpa using h1, h2⟩
theorem RpAll.get' : ∀ {vs : List V} {ds : List D} {i : Nat} {v : V}, RpAll K m H vs ds → vs[i]? = some v → ∃ d, ds[i]? = some d ∧ Rp K m H v d
  | _, _, _, _, .nil, h => by simp at h
  | _, _, 0, _, .cons r _, h => ⟨_, rfl, by simp at h; subst h; exact r⟩
  | _, _, i + 1, _, .cons _ rs, h => by
    obtain ⟨v, h1, h2⟩ := RpAll.get' (i := i) rs (by simpa using h)
    exact ⟨v, by simpa using h1, h2⟩
theorem RpAll.append : ∀ {vs ws : List V} {ds es : List D}, RpAll K m H vs ds → RpAll K m H ws es → RpAll K m H (vs ++ ws) (ds ++ es)
  | _, _, _, _, .nil, s => s
  | _, _, _, _, .cons r rs, s => .cons r (RpAll.append rs s)
theorem RpAll.take : ∀ {vs : List V} {ds : List D} (n : Nat), RpAll K m H vs ds → RpAll K m H (vs.take n) (ds.take n)
  | _, _, 0, _ => .nil
  | _, _, _ + 1, .nil => .nil
  | _, _, n + 1, .cons r rs => .cons r (RpAll.take n rs)
theorem RpAll.drop : ∀ {vs : List V} {ds : List D} (n : Nat), RpAll K m H vs ds → RpAll K m H (vs.drop n) (ds.drop n)
  | _, _, 0, r => r
  | _, _, _ + 1, .nil => .nil
  | _, _, n + 1, .cons _ rs => RpAll.drop n rs
theorem RpAll.reverse {vs : List V} {ds : List D} (h : RpAll K m H vs ds) : RpAll K m H vs.reverse ds.reverse := by
  induction vs generalizing ds with
  | nil => cases h; exact .nil
  | cons v vs ih =>
    cases h with
    | cons r rs =>
      rw [List.reverse_cons, List.reverse_cons]
      exact (ih rs).append (.cons r .nil)
theorem RpAll.set {v : V} {d : D} (r : Rp K m H v d) : ∀ {vs : List V} {ds : List D} (i : Nat), RpAll K m H vs ds → RpAll K m H (vs.set i v) (ds.set i d)
  | _, _, _, .nil => .nil
  | _, _, 0, .cons _ t => .cons r t
  | _, _, i + 1, .cons q t => .cons q (RpAll.set r i t)
theorem RpAll.ints : ∀ (ns : List Int), RpAll K m H (ns.map V.int) (ns.map D.int)
  | [] => .nil
  | n :: ns => .cons (.int n) (RpAll.ints ns)
theorem RpAll.strs : ∀ (ns : List Str), RpAll K m H (ns.map V.str) (ns.map D.str)
  | [] => .nil
  | n :: ns => .cons (.str n) (RpAll.strs ns)

mutual
/-- other numbers, other hidden ones: as long as the same addresses are met -/
theorem Rp.re (hl : ∀ (n : Nat) a, m.l[n]? = some a → m'.l[n]? = some a) (hb : ∀ a, ¬ m.has a → ¬ m'.has a) : ∀ {v : V} {d : D}, Rp K m H v d → Rp K m' H v d
  | _, _, .non => .non
  | _, _, .bl b => .bl b
  | _, _, .int i => .int i
  | _, _, .str x => .str x
  | _, _, .tup h r => .tup h (RpAll.re hl hb r)
  | _, _, .lst h n r => .lst h (hb _ n) (RpAll.re hl hb r)
  | _, _, .scr h => .scr h
  | _, _, .dic h n k r => .dic h (hb _ n) k (RpAll.re hl hb r)
  | _, _, .ref h => .ref (hl _ _ h)
  | _, _, .tun h h1 h2 r => .tun h h1 h2 (RpAll.re hl hb r)
  | _, _, .fn h => .fn h
theorem RpAll.re (hl : ∀ (n : Nat) a, m.l[n]? = some a → m'.l[n]? = some a) (hb : ∀ a, ¬ m.has a → ¬ m'.has a) : ∀ {vs : List V} {ds : List D}, RpAll K m H vs ds → RpAll K m' H vs ds
  | _, _, .nil => .nil
  | _, _, .cons r rs => .cons (Rp.re hl hb r) (RpAll.re hl hb rs)
end
mutual
/-- a new address is hidden, the heap above stays -/
theorem Rp.hide {p : Addr} (hp : H p = none) (e : Ev m H m H') : ∀ {v : V} {d : D}, Rp K m H v d → Rp K (m.hide p) H' v d
  | _, _, .non => .non
  | _, _, .bl b => .bl b
  | _, _, .int i => .int i
  | _, _, .str x => .str x
  | _, _, .tup h r => .tup (e.sqT h) (RpAll.hide hp e r)
  | _, _, .lst h n r => .lst (e.keep _ _ h fun z => n (.inl z)) (fun z => by
      rcases z with z | z
      · exact n (.inl z)
      · rcases List.mem_cons.mp z with q | q
        · subst q; rw [h] at hp; cases hp
        · exact n (.inr q)) (RpAll.hide hp e r)
  | _, _, .scr h => .scr (e.sqF h)
  | _, _, .dic h n k r => .dic (e.keep _ _ h fun z => n (.inl z)) (fun z => by
      rcases z with z | z
      · exact n (.inl z)
      · rcases List.mem_cons.mp z with q | q
        · subst q; rw [h] at hp; cases hp
        · exact n (.inr q)) k (RpAll.hide hp e r)
  | _, _, .ref h => .ref h
  | _, _, .tun h h1 h2 r => .tun (e.frz _ _ _ h) h1 h2 (RpAll.hide hp e r)
  | _, _, .fn h => .fn h
theorem RpAll.hide {p : Addr} (hp : H p = none) (e : Ev m H m H') : ∀ {vs : List V} {ds : List D}, RpAll K m H vs ds → RpAll K (m.hide p) H' vs ds
  | _, _, .nil => .nil
  | _, _, .cons r rs => .cons (Rp.hide hp e r) (RpAll.hide hp e rs)
end
/-- one changing object -/
def RO (C : Addr) (K : PySem.W.Frag) (m : M) (H : Hp) (a : Addr) : O → Prop
  | .lst ds => ∃ xs, H a = some (.lst xs) ∧ RpAll K m H xs ds
  | .dic ks => ∃ kvs, H a = some (.dK kvs) ∧ kvs.map (·.1) = ks.map (·.1) ∧ RpAll K m H (kvs.map (·.2)) (ks.map (·.2))
  | .ins fs => ∃ dx gs, H a = some (.ins C dx gs) ∧ gs.map (·.1) = fs.map (·.1) ∧ RpAll K m H (gs.map (·.2)) (fs.map (·.2))
structure SR (C : Addr) (K : PySem.W.Frag) (m : M) (H : Hp) (S : List O) : Prop where
  nd : m.l.Nodup
  len : m.l.length = S.length
  obj : ∀ (n : Nat) a o, m.l[n]? = some a → S[n]? = some o → RO C K m H a o
  hid : ∀ a, a ∈ m.b → H a ≠ none
  apt : ∀ a, a ∈ m.b → a ∉ m.l
theorem RO.ev {C a : Addr} {o : O} (e : Ev m H m' H') (h : RO C K m H a o) (k : H' a = H a) : RO C K m' H' a o := by
  cases o with
  | lst ds => obtain ⟨xs, h1, h2⟩ := h; exact ⟨xs, by rw [k]; exact h1, h2.ev e⟩
  | dic ks => obtain ⟨xs, h1, h2, h3⟩ := h; exact ⟨xs, by rw [k]; exact h1, h2, h3.ev e⟩
  | ins fs => obtain ⟨dx, gs, h1, h2, h3⟩ := h; exact ⟨dx, gs, by rw [k]; exact h1, h2, h3.ev e⟩
theorem RO.some {C a : Addr} {o : O} (h : RO C K m H a o) : ∃ u, H a = some u := by
  cases o with
  | lst ds => obtain ⟨xs, h1, h2⟩ := h; exact ⟨_, h1⟩
  | dic ks => obtain ⟨xs, h1, h2, h3⟩ := h; exact ⟨_, h1⟩
  | ins fs => obtain ⟨dx, gs, h1, h2, h3⟩ := h; exact ⟨_, h1⟩
theorem SR.mem {C : Addr} {S : List O} (s : SR C K m H S) {a : Addr} (h : a ∈ m.l) : ∃ (n : Nat) (o : O), m.l[n]? = some a ∧ S[n]? = some o ∧ RO C K m H a o := by
  obtain ⟨n, hn, e⟩ := List.mem_iff_getElem.mp h
  have h1 : m.l[n]? = some a := by rw [List.getElem?_eq_getElem hn, e]
  have hn2 : n < S.length := by rw [← s.len]; exact hn
  exact ⟨n, S[n], h1, List.getElem?_eq_getElem hn2, s.obj n a _ h1 (List.getElem?_eq_getElem hn2)⟩
theorem SR.notl {C : Addr} {S : List O} (s : SR C K m H S) {p : Addr} (h : H p = none) : p ∉ m.l := fun q => by
  obtain ⟨n, o, _, _, r⟩ := s.mem q
  obtain ⟨u, e⟩ := r.some
  rw [h] at e; cases e
theorem SR.notin {C : Addr} {S : List O} (s : SR C K m H S) {p : Addr} (h : H p = none) : ¬ m.has p := fun q => by
  rcases q with q | q
  · exact s.notl h q
  · exact s.hid p q h
theorem SR.nottup {C : Addr} {S : List O} (s : SR C K m H S) {a : Addr} (q : a ∈ m.l) : ∃ u, H a = some u ∧ (∀ xs, u ≠ .tup xs) ∧ ∀ o v, u ≠ .frz o v := by
  obtain ⟨n, o, _, _, r⟩ := s.mem q
  cases o with
  | lst ds => obtain ⟨xs, h1, h2⟩ := r; exact ⟨_, h1, (fun _ z => nomatch z), fun _ _ z => nomatch z⟩
  | dic ks => obtain ⟨xs, h1, h2, h3⟩ := r; exact ⟨_, h1, (fun _ z => nomatch z), fun _ _ z => nomatch z⟩
  | ins fs => obtain ⟨dx, gs, h1, h2, h3⟩ := r; exact ⟨_, h1, (fun _ z => nomatch z), fun _ _ z => nomatch z⟩
/-- a new object leaves the changing ones as they were -/
theorem SR.lay {C : Addr} {S : List O} (s : SR C K m H S) {p : Addr} {o : HO} (h : H p = none) : SR C K m (upd H p o) S :=
  ⟨s.nd, s.len, fun n a o' h1 h2 => by
    have r := s.obj n a o' h1 h2
    obtain ⟨u, e⟩ := r.some
    exact r.ev (.lay h) (upd_ne (ne_of_none e h)), fun a ha => by
      by_cases e : a = p
      · rw [e, upd_same]; exact fun z => nomatch z
      · rw [upd_ne e]; exact s.hid a ha, s.apt⟩
theorem nodup_snoc {α : Type} {l : List α} {a : α} (h : l.Nodup) (hm : a ∉ l) : (l ++ [a]).Nodup := by
  rw [List.nodup_append]
  exact ⟨h, by simp, fun x hx y hy => by rw [List.mem_singleton] at hy; subst hy; exact fun e => hm (e ▸ hx)⟩
theorem add_at (m : M) {n : Nat} {a p : Addr} (h : m.l[n]? = Option.some a) : (m.add p).l[n]? = Option.some a := by
  have hl : n < m.l.length := (List.getElem?_eq_some_iff.mp h).1
  show (m.l ++ [p])[n]? = _
  rw [List.getElem?_append_left hl]
  exact h
/-- an object that stands already is made a changing one -/
theorem SR.add {C : Addr} {S : List O} (s : SR C K m H S) {p : Addr} {ob : O} (hp : ¬ m.has p) (hb : ∀ (n : Nat) a o, m.l[n]? = some a → S[n]? = some o → RO C K (m.add p) H a o) (new : RO C K (m.add p) H p ob) : SR C K (m.add p) H (S ++ [ob]) where
  nd := nodup_snoc s.nd fun z => hp (.inl z)
  len := by show (m.l ++ [p]).length = _; simp [s.len]
  obj := fun n a o' h1 h2 => by
    have h1 : (m.l ++ [p])[n]? = Option.some a := h1
    by_cases hn : n < m.l.length
    · rw [List.getElem?_append_left hn] at h1
      rw [List.getElem?_append_left (by rw [← s.len]; exact hn)] at h2
      exact hb n a o' h1 h2
    · have hn' : n = m.l.length := by
        have := (List.getElem?_eq_some_iff.mp h1).1
        simp at this; omega
      subst hn'
      simp at h1
      rw [s.len] at h2
      simp at h2
      subst h1; subst h2
      exact new
  hid := s.hid
  apt := fun a ha z => by
    rcases List.mem_append.mp z with q | q
    · exact s.apt a ha q
    · rw [List.mem_singleton] at q; subst q; exact hp (.inr ha)
theorem has_add (m : M) {p a : Addr} (hn : ¬ m.has a) (hne : a ≠ p) : ¬ (m.add p).has a := fun z => by
  rcases z with z | z
  · rcases List.mem_append.mp z with q | q
    · exact hn (.inl q)
    · rw [List.mem_singleton] at q; exact hne q
  · exact hn (.inr z)
/-- laid and made a changing one at once -/
theorem Ev.layM {p : Addr} {o : HO} (h : H p = Option.none) : Ev m H (m.add p) (upd H p o) := (Ev.lay h).add h
theorem SR.layM {C : Addr} {S : List O} (s : SR C K m H S) {p : Addr} {o : HO} {ob : O} (h : H p = Option.none) (new : RO C K (m.add p) (upd H p o) p ob) : SR C K (m.add p) (upd H p o) (S ++ [ob]) :=
  (s.lay h).add (s.notin h) (fun n a o' h1 h2 => by
    have r := s.obj n a o' h1 h2
    obtain ⟨u, e⟩ := r.some
    exact r.ev (.layM h) (upd_ne (ne_of_none e h))) new
theorem SR.put {C : Addr} {S : List O} (s : SR C K m H S) {n : Nat} {p : Addr} {o : HO} {ob : O} (hp : m.l[n]? = Option.some p) (new : RO C K m (upd H p o) p ob) : SR C K m (upd H p o) (S.set n ob) where
  nd := s.nd
  len := by simp [s.len]
  obj := fun j a o' h1 h2 => by
    have hmem : p ∈ m.l := List.mem_of_getElem? hp
    obtain ⟨u, hu, ht, hf⟩ := s.nottup hmem
    have hn : n < m.l.length := (List.getElem?_eq_some_iff.mp hp).1
    by_cases hj : j = n
    · subst hj
      rw [hp] at h1
      cases h1
      rw [List.getElem?_set_self (by rw [← s.len]; exact hn)] at h2
      cases h2
      exact new
    · have hne : a ≠ p := fun e => by
        subst e
        exact hj (nd_ix s.nd h1 hp)
      rw [List.getElem?_set_ne (fun e => hj e.symm)] at h2
      exact (s.obj j a o' h1 h2).ev (.set hmem hu ht hf) (upd_ne hne)
  hid := fun a ha => by
    by_cases e : a = p
    · rw [e, upd_same]; exact fun z => nomatch z
    · rw [upd_ne e]; exact s.hid a ha
  apt := s.apt

/-! ## the slots -/
abbrev Sl := List (Option D)
structure ER (K : PySem.W.Frag) (m : M) (H : Hp) (σ : L2.St) (δ : Sl) : Prop where
  len : σ.length = δ.length
  get : ∀ (i : Nat) d, δ[i]? = some (some d) → ∃ v, σ[i]? = some (some v) ∧ Rp K m H v d
theorem ER.ev {σ : L2.St} {δ : Sl} (e : Ev m H m' H') (h : ER K m H σ δ) : ER K m' H' σ δ :=
  ⟨h.len, fun i d q => let ⟨v, a, b⟩ := h.get i d q; ⟨v, a, b.ev e⟩⟩
theorem ER.set {σ : L2.St} {δ : Sl} {v : V} {d : D} (h : ER K m H σ δ) (i : Nat) (r : Rp K m H v d) : ER K m H (σ.set i (some v)) (δ.set i (some d)) :=
  ⟨by simp [h.len], fun j d' q => by
    by_cases hj : i = j
    · subst hj
      by_cases hl : i < δ.length
      · rw [List.getElem?_set_self hl] at q
        cases q
        exact ⟨v, List.getElem?_set_self (by rw [h.len]; exact hl), r⟩
      · rw [List.getElem?_eq_none (by simp; omega)] at q
        cases q
    · rw [List.getElem?_set_ne hj] at q ⊢
      exact h.get j d' q⟩
theorem ER.unset {σ : L2.St} {δ : Sl} (h : ER K m H σ δ) (i : Nat) : ER K m H (σ.set i none) (δ.set i none) :=
  ⟨by simp [h.len], fun j d' q => by
    by_cases hj : i = j
    · subst hj
      by_cases hl : i < δ.length
      · rw [List.getElem?_set_self hl] at q
        cases q
      · rw [List.getElem?_eq_none (by simp; omega)] at q
        cases q
    · rw [List.getElem?_set_ne hj] at q ⊢
      exact h.get j d' q⟩
end
end Cb
namespace Cb
open PySem L2

/-! ## what a reading does to data -/
abbrev E := Sl → List O → Option (D × List O)
abbrev T := Sl → List O → Option (Bool × List O)
abbrev A := Sl → List O → Option (List D × List O)
inductive Out where
  | nx (δ : Sl) (S : List O) | rt (d : D) (S : List O) | bk (δ : Sl) (S : List O) | ct (δ : Sl) (S : List O)
abbrev B := Sl → List O → Option Out

def ESem (C : Addr) (K : PySem.W.Frag) (t : TE) (f : E) : Prop := ∀ m σ H δ S d S' Q, ER K m H σ δ → SR C K m H S → f δ S = some (d, S') →
  (∀ v m' H', Ev m H m' H' → SR C K m' H' S' → Rp K m' H' v d → Q v H') → t σ H Q
def TSem (C : Addr) (K : PySem.W.Frag) (t : TT) (f : T) : Prop := ∀ m σ H δ S b S' Q, ER K m H σ δ → SR C K m H S → f δ S = some (b, S') →
  (∀ m' H', Ev m H m' H' → SR C K m' H' S' → Q b H') → t σ H Q
def ASem (C : Addr) (K : PySem.W.Frag) (t : TA) (f : A) : Prop := ∀ m σ H δ S ds S' Q, ER K m H σ δ → SR C K m H S → f δ S = some (ds, S') →
  (∀ vs m' H', Ev m H m' H' → SR C K m' H' S' → RpAll K m' H' vs ds → Q vs H') → t σ H Q
/-- a new list; a new dict -/
def LSem (C : Addr) (K : PySem.W.Frag) (t : TE) (f : A) : Prop := ∀ m σ H δ S ds S' Q, ER K m H σ δ → SR C K m H S → f δ S = some (ds, S') →
  (∀ p xs m' H', Ev m H m' H' → H p = none → H' p = some (.lst xs) → SR C K (m'.hide p) H' S' → RpAll K (m'.hide p) H' xs ds → Q (.ref p) H') → t σ H Q
abbrev DD := Sl → List O → Option (List (Key × D) × List O)
def DSem (C : Addr) (K : PySem.W.Frag) (t : TE) (f : DD) : Prop := ∀ m σ H δ S ds S' Q, ER K m H σ δ → SR C K m H S → f δ S = some (ds, S') →
  (∀ p kvs m' H', Ev m H m' H' → H p = none → H' p = some (.dK kvs) → SR C K (m'.hide p) H' S' → kvs.map (·.1) = ds.map (·.1) → RpAll K (m'.hide p) H' (kvs.map (·.2)) (ds.map (·.2)) → Q (.ref p) H') → t σ H Q
section
variable {C : Addr} {K : PySem.W.Frag} {m m' : M} {H H' : Hp} {S S' : List O} {p : Addr} {o : HO}
theorem RO.mp {m2 : M} {H2 : Hp} {a : Addr} {ob : O} (h : RO C K m H a ob) (k : H2 a = H a) (f : ∀ {vs : List V} {ds : List D}, RpAll K m H vs ds → RpAll K m2 H2 vs ds) : RO C K m2 H2 a ob := by
  cases ob with
  | lst ds => obtain ⟨xs, h1, h2⟩ := h; exact ⟨xs, by rw [k]; exact h1, f h2⟩
  | dic ks => obtain ⟨xs, h1, h2, h3⟩ := h; exact ⟨xs, by rw [k]; exact h1, h2, f h3⟩
  | ins fs => obtain ⟨dx, gs, h1, h2, h3⟩ := h; exact ⟨dx, gs, by rw [k]; exact h1, h2, f h3⟩
theorem SR.hideLay (s : SR C K m H S) (hp : H p = none) : SR C K (m.hide p) (upd H p o) S where
  nd := s.nd
  len := s.len
  obj := fun n a ob h1 h2 => by
    have r := s.obj n a ob h1 h2
    obtain ⟨u, e⟩ := r.some
    exact r.mp (upd_ne (ne_of_none e hp)) (RpAll.hide hp (.lay hp))
  hid := fun a ha => by
    by_cases e : a = p
    · rw [e, upd_same]; exact fun z => nomatch z
    · rw [upd_ne e]
      rcases List.mem_cons.mp ha with q | q
      · exact absurd q e
      · exact s.hid a q
  apt := fun a ha => by
    rcases List.mem_cons.mp ha with q | q
    · rw [q]; exact s.notl hp
    · exact s.apt a q
theorem Ev.free (e : Ev m H m' H') (s : SR C K m' H' S') (h : H' p = none) : H p = none := by
  cases q : H p with
  | none => rfl
  | some u =>
    by_cases hm : p ∈ m.l
    · obtain ⟨l, el⟩ := e.pre
      exact absurd (by rw [el]; exact List.mem_append_left _ hm) (s.notl h)
    · rw [e.keep p u q hm] at h; cases h
/-- a new thing, seen from where all began: it is no hidden and no changing one -/
theorem new_has (e : Ev m H m' H') (s0 : SR C K m H S) (hp : H p = none) (s : SR C K (m'.hide p) H' S') : ¬ m'.has p := fun z => by
  rcases z with z | z
  · exact s.apt p List.mem_cons_self z
  · rw [e.hid] at z
    exact s0.hid p z hp
theorem unhide {vs : List V} {ds : List D} (r : RpAll K (m.hide p) H vs ds) : RpAll K m H vs ds := RpAll.re (m := m.hide p) (m' := m) (fun _ _ h => h) (fun a n z => n (by
  rcases z with z | z
  · exact .inl z
  · exact .inr (List.mem_cons_of_mem _ z))) r
theorem hide_add {vs : List V} {ds : List D} (r : RpAll K (m.hide p) H vs ds) : RpAll K (m.add p) H vs ds := RpAll.re (m := m.hide p) (m' := m.add p) (fun _ _ h => add_at m h) (fun a n z => n (by
  rcases z with z | z
  · rcases List.mem_append.mp z with q | q
    · exact .inl q
    · rw [List.mem_singleton] at q; subst q; exact .inr List.mem_cons_self
  · exact .inr (List.mem_cons_of_mem _ z))) r
theorem SR.unhide (s : SR C K (m.hide p) H S) : SR C K m H S :=
  ⟨s.nd, s.len, fun n a ob h1 h2 => (s.obj n a ob h1 h2).mp rfl Cb.unhide, fun a ha => s.hid a (List.mem_cons_of_mem _ ha), fun a ha => s.apt a (List.mem_cons_of_mem _ ha)⟩
theorem SR.hideAdd {ob : O} (s : SR C K (m.hide p) H S) (hn : ¬ m.has p) (new : RO C K (m.add p) H p ob) : SR C K (m.add p) H (S ++ [ob]) :=
  s.unhide.add hn (fun n a ob h1 h2 => (s.obj n a ob h1 h2).mp rfl hide_add) new
end
def Post (C : Addr) (K : PySem.W.Frag) (m : M) (H : Hp) (o : Out) (Z : Ends) : Prop := match o with
  | .nx δ' S' => ∀ m' σ' H', Ev m H m' H' → ER K m' H' σ' δ' → SR C K m' H' S' → Z.nx σ' H'
  | .bk δ' S' => ∀ m' σ' H', Ev m H m' H' → ER K m' H' σ' δ' → SR C K m' H' S' → Z.bk σ' H'
  | .ct δ' S' => ∀ m' σ' H', Ev m H m' H' → ER K m' H' σ' δ' → SR C K m' H' S' → Z.ct σ' H'
  | .rt d S' => ∀ v m' H', Ev m H m' H' → SR C K m' H' S' → Rp K m' H' v d → Z.rt v H'
def SSem (C : Addr) (K : PySem.W.Frag) (t : TS) (b : B) : Prop := ∀ m σ H δ S o (Z : Ends), ER K m H σ δ → SR C K m H S → b δ S = some o → Post C K m H o Z → t Z σ H

section
variable {C : Addr} {K : PySem.W.Frag} {m m' : M} {H H' : Hp} {o : Out} {Z : Ends}
theorem Post.ev (e : Ev m H m' H') (h : Post C K m H o Z) : Post C K m' H' o Z := by
  cases o with
  | nx δ S => exact fun m'' σ' H'' e' => h m'' σ' H'' (e.trans e')
  | bk δ S => exact fun m'' σ' H'' e' => h m'' σ' H'' (e.trans e')
  | ct δ S => exact fun m'' σ' H'' e' => h m'' σ' H'' (e.trans e')
  | rt d S => exact fun v m'' H'' e' => h v m'' H'' (e.trans e')
end

structure RE (X : Cx) (C : Addr) (e : Expr) (t : TE) (f : E) : Prop where
  p : PE X e t
  s : ESem C X.K t f
structure RT (X : Cx) (C : Addr) (e : Expr) (t : TT) (f : T) : Prop where
  p : PT X e t
  s : TSem C X.K t f
structure RA (X : Cx) (C : Addr) (es : List Expr) (t : TA) (f : A) : Prop where
  p : PA X es t
  s : ASem C X.K t f
structure RL (X : Cx) (C : Addr) (e : Expr) (t : TE) (f : A) : Prop where
  p : PE X e t
  s : LSem C X.K t f
structure RD (X : Cx) (C : Addr) (e : Expr) (t : TE) (f : DD) : Prop where
  p : PE X e t
  s : DSem C X.K t f
structure RS (X : Cx) (C : Addr) (st : Stmt) (t : TS) (f : B) : Prop where
  p : PS X st t
  s : SSem C X.K t f
structure RSs (X : Cx) (C : Addr) (st : List Stmt) (t : TS) (f : B) : Prop where
  p : PSs X st t
  s : SSem C X.K t f

section
variable {X : Cx} {C : Addr} {pos : Pos} {a b c e : Expr} {es : List Expr} {ta tb tc te : TE} {tA : TA} {fa fb fc f : E} {g : A}

/-! ### names, constants -/
def eVar (i : Nat) : E := fun δ S => match δ[i]? with | some (some d) => some (d, S) | _ => none
def eC (d : D) : E := fun _ S => some (d, S)
theorem s_var (i : Nat) : ESem C X.K (tVar i) (eVar i) := fun m σ H δ S d S' Q er sr h q => by
  unfold eVar at h
  split at h
  · rename_i d' hd
    cases h
    obtain ⟨v, h1, h2⟩ := er.get i _ hd
    exact ⟨v, h1, q v m H .refl sr h2⟩
  · cases h
theorem re_var (i : Nat) {x : Str} (hN : X.N[i]? = some x := by rfl) (hv : Vis X.env.scope x := by first | exact Or.inl rfl | exact Or.inr (Or.inl rfl) | exact Or.inr (Or.inr rfl)) (hd : (x == ("__debug__" : Str)) = false := by decide)
    (hcd : (x == ("__classdict__" : Str)) = false := by decide) : RE X C (.Name x pos) (tVar i) (eVar i) := ⟨pe_var hN hv hd hcd, s_var i⟩
theorem re_int {i : Int} {j} : RE X C (.Constant (.int i) j pos) (tC (.int i)) (eC (.int i)) := ⟨pe_int, fun m σ H δ S d S' Q er sr h q => by cases h; exact q _ m H .refl sr (.int i)⟩
theorem re_bl {i : Bool} {j} : RE X C (.Constant (.bool i) j pos) (tC (.bl i)) (eC (.bl i)) := ⟨pe_bl, fun m σ H δ S d S' Q er sr h q => by cases h; exact q _ m H .refl sr (.bl i)⟩
theorem re_non {j} : RE X C (.Constant .none j pos) (tC .non) (eC .non) := ⟨pe_non, fun m σ H δ S d S' Q er sr h q => by cases h; exact q _ m H .refl sr .non⟩
theorem re_str {i : Str} {j} : RE X C (.Constant (.str i) j pos) (tC (.str i)) (eC (.str i)) := ⟨pe_str, fun m σ H δ S d S' Q er sr h q => by cases h; exact q _ m H .refl sr (.str i)⟩
theorem re_gInt {x : Str} {i : Int} {u : Value} (hg : Gl X x) (hm : X.mg x = some u) (r : RelV (.int i) u) (hd : (x == ("__debug__" : Str)) = false := by decide) : RE X C (.Name x pos) (tC (.int i)) (eC (.int i)) :=
  ⟨pe_glob hg hm r hd, fun m σ H δ S d S' Q er sr h q => by cases h; exact q _ m H .refl sr (.int i)⟩
theorem re_gStr {x z : Str} {u : Value} (hg : Gl X x) (hm : X.mg x = some u) (r : RelV (.str z) u) (hd : (x == ("__debug__" : Str)) = false := by decide) : RE X C (.Name x pos) (tC (.str z)) (eC (.str z)) :=
  ⟨pe_glob hg hm r hd, fun m σ H δ S d S' Q er sr h q => by cases h; exact q _ m H .refl sr (.str z)⟩

/-! ### lists of expressions -/
def aNil : A := fun _ S => some ([], S)
def aCons (f : E) (g : A) : A := fun δ S => (f δ S).bind fun p => (g δ p.2).bind fun q => some (p.1 :: q.1, q.2)
theorem ra_nil : RA X C [] tNil aNil := ⟨pa_nil, fun m σ H δ S d S' Q er sr h q => by cases h; exact q [] m H .refl sr .nil⟩
theorem ra_cons (ha : RE X C e te f) (hr : RA X C es tA g) (hs : starEach (e :: es) X.env = (false, eval e X.env) :: starEach es X.env := by rfl) : RA X C (e :: es) (tCons te tA) (aCons f g) :=
  ⟨pa_cons ha.p hr.p hs, fun m σ H δ S d S' Q er sr h q => by
    unfold aCons at h
    obtain ⟨⟨d1, S1⟩, h1, h2⟩ := Option.bind_eq_some_iff.mp h
    obtain ⟨⟨ds, S2⟩, h3, h4⟩ := Option.bind_eq_some_iff.mp h2
    cases h4
    refine ha.s m σ H δ S d1 S1 _ er sr h1 fun v m1 H1 e1 s1 r1 => ?_
    refine hr.s m1 σ H1 δ S1 ds _ _ (er.ev e1) s1 h3 fun vs m2 H2 e2 s2 r2 => ?_
    exact q _ m2 H2 (e1.trans e2) s2 (.cons (r1.ev e2) r2)⟩

/-! ### displays -/
def eTup (g : A) : E := fun δ S => (g δ S).bind fun p => if p.1.length ≤ 1000 then some (.tup p.1, p.2) else none
theorem le_size {n : Nat} (h : n ≤ 1000) : n ≤ sizeLine := Nat.le_of_lt (small1000 h)
theorem re_tup {x1} (h : RA X C es tA g) : RE X C (.Tuple es x1 pos) (tTup tA) (eTup g) :=
  ⟨pe_tup h.p, fun m σ H δ S d S' Q er sr hf q => by
    unfold eTup at hf
    obtain ⟨⟨ds, S1⟩, h1, h2⟩ := Option.bind_eq_some_iff.mp hf
    split at h2
    · rename_i hl
      cases h2
      refine h.s m σ H δ S _ _ _ er sr h1 fun vs m1 H1 e1 s1 r1 => ?_
      refine ⟨le_size (by rw [r1.length]; exact hl), fun p hp => ?_⟩
      exact q _ m1 _ (e1.trans (.lay hp)) (s1.lay hp) (.tup (.of upd_same) (r1.ev (.lay hp)))
    · cases h2⟩
def lDisp (g : A) : A := fun δ S => (g δ S).bind fun p => if p.1.length ≤ 1000 then some p else none
theorem rl_lst (h : RA X C es tA g) : RL X C (.List es pos) (tLst tA) (lDisp g) :=
  ⟨pe_lst h.p, fun m σ H δ S d S' Q er sr hf q => by
    unfold lDisp at hf
    obtain ⟨⟨ds, S1⟩, h1, h2⟩ := Option.bind_eq_some_iff.mp hf
    split at h2
    · rename_i hl
      cases h2
      refine h.s m σ H δ S _ _ _ er sr h1 fun vs m1 H1 e1 s1 r1 => ?_
      exact ⟨le_size (by rw [r1.length]; exact hl), fun p hp => q p vs m1 _ (e1.trans (.lay hp)) (e1.free s1 hp) upd_same (s1.hideLay hp) (r1.hide hp (.lay hp))⟩
    · cases h2⟩
/-- a new list as a value that never changes; as a changing object -/
def eL (g : A) : E := fun δ S => (g δ S).bind fun p => some (.lst p.1, p.2)
def eLM (g : A) : E := fun δ S => (g δ S).bind fun p => some (.ref p.2.length, p.2 ++ [.lst p.1])
theorem s_L {t : TE} (h : LSem C K t g) : ESem C K t (eL g) := fun m σ H δ S d S' Q er sr hf q => by
  unfold eL at hf
  obtain ⟨⟨ds, S1⟩, h1, h2⟩ := Option.bind_eq_some_iff.mp hf
  cases h2
  refine h m σ H δ S ds _ _ er sr h1 fun p xs m1 H1 e1 hp hl s1 r1 => ?_
  exact q _ m1 _ e1 s1.unhide (.lst hl (new_has e1 sr hp s1) (unhide r1))
theorem at_snoc {α : Type} {l : List α} {a : α} : (l ++ [a])[l.length]? = some a := by simp
theorem s_LM {t : TE} (h : LSem C K t g) : ESem C K t (eLM g) := fun m σ H δ S d S' Q er sr hf q => by
  unfold eLM at hf
  obtain ⟨⟨ds, S1⟩, h1, h2⟩ := Option.bind_eq_some_iff.mp hf
  cases h2
  refine h m σ H δ S ds S1 _ er sr h1 fun p xs m1 H1 e1 hp hl s1 r1 => ?_
  refine q _ (m1.add p) _ (e1.add hp) (s1.hideAdd (new_has e1 sr hp s1) ⟨xs, hl, hide_add r1⟩) (.ref ?_)
  have hlen : m1.l.length = S1.length := s1.len
  rw [← hlen]
  exact at_snoc
theorem re_L (h : RL X C e te g) : RE X C e te (eL g) := ⟨h.p, s_L h.s⟩
theorem re_LM (h : RL X C e te g) : RE X C e te (eLM g) := ⟨h.p, s_LM h.s⟩
def eDi (g : DD) : E := fun δ S => (g δ S).bind fun p => some (.dic p.1, p.2)
def eDM (g : DD) : E := fun δ S => (g δ S).bind fun p => some (.ref p.2.length, p.2 ++ [.dic p.1])
theorem s_Di {t : TE} {g : DD} (h : DSem C K t g) : ESem C K t (eDi g) := fun m σ H δ S d S' Q er sr hf q => by
  unfold eDi at hf
  obtain ⟨⟨ds, S1⟩, h1, h2⟩ := Option.bind_eq_some_iff.mp hf
  cases h2
  refine h m σ H δ S ds _ _ er sr h1 fun p xs m1 H1 e1 hp hl s1 k1 r1 => ?_
  exact q _ m1 _ e1 s1.unhide (.dic hl (new_has e1 sr hp s1) k1 (unhide r1))
theorem s_DM {t : TE} {g : DD} (h : DSem C K t g) : ESem C K t (eDM g) := fun m σ H δ S d S' Q er sr hf q => by
  unfold eDM at hf
  obtain ⟨⟨ds, S1⟩, h1, h2⟩ := Option.bind_eq_some_iff.mp hf
  cases h2
  refine h m σ H δ S ds S1 _ er sr h1 fun p xs m1 H1 e1 hp hl s1 k1 r1 => ?_
  refine q _ (m1.add p) _ (e1.add hp) (s1.hideAdd (new_has e1 sr hp s1) ⟨xs, hl, k1, hide_add r1⟩) (.ref ?_)
  have hlen : m1.l.length = S1.length := s1.len
  rw [← hlen]
  exact at_snoc
theorem re_Di {g : DD} (h : RD X C e te g) : RE X C e te (eDi g) := ⟨h.p, s_Di h.s⟩
theorem re_DM {g : DD} (h : RD X C e te g) : RE X C e te (eDM g) := ⟨h.p, s_DM h.s⟩

/-! ### what a value is, as a list, a tuple -/
def seqL (S : List O) : D → Option (List D)
  | .lst xs => some xs
  | .scr ns => some (ns.map .int)
  | .ref n => match S[n]? with | some (.lst xs) => some xs | _ => none
  | _ => none
theorem rp_seqL {m : M} {H : Hp} {S : List O} {v : V} {d : D} {ds : List D} (s : SR C K m H S) (r : Rp K m H v d) (h : seqL S d = some ds) : ∃ a xs, v = .ref a ∧ SqL K H a xs ∧ RpAll K m H xs ds := by
  cases r with
  | lst h1 n r => cases h; exact ⟨_, _, rfl, .of h1, r⟩
  | scr h1 => cases h; exact ⟨_, _, rfl, h1.sq, .ints _⟩
  | @ref a n hn =>
    have h : (match S[n]? with | some (O.lst xs) => some xs | _ => none) = some ds := h
    split at h
    · rename_i xs hs
      cases h
      obtain ⟨vs, h1, h2⟩ := s.obj _ _ _ hn hs
      exact ⟨_, _, rfl, .of h1, h2⟩
    · cases h
  | _ => cases h
/-- a list that stands tracked by itself -/
def seqM (S : List O) : D → Option (List D)
  | .lst xs => some xs
  | .ref n => match S[n]? with | some (.lst xs) => some xs | _ => none
  | _ => none
theorem rp_seqM {m : M} {H : Hp} {S : List O} {v : V} {d : D} {ds : List D} (s : SR C K m H S) (r : Rp K m H v d) (h : seqM S d = some ds) : ∃ a xs, v = .ref a ∧ H a = some (.lst xs) ∧ RpAll K m H xs ds := by
  cases r with
  | lst h1 n r => cases h; exact ⟨_, _, rfl, h1, r⟩
  | @ref a n hn =>
    have h : (match S[n]? with | some (O.lst xs) => some xs | _ => none) = some ds := h
    split at h
    · rename_i xs hs
      cases h
      obtain ⟨vs, h1, h2⟩ := s.obj _ _ _ hn hs
      exact ⟨_, _, rfl, h1, h2⟩
    · cases h
  | _ => cases h

/-! ### operators -/
abbrev Op2 := D → D → List O → Option D
def eOp (g : Op2) (f1 f2 : E) : E := fun δ S => (f1 δ S).bind fun p => (f2 δ p.2).bind fun q => (g p.1 q.1 q.2).bind fun d => some (d, q.2)
def R2Sem (C : Addr) (K : PySem.W.Frag) (r : R2) (g : Op2) : Prop := ∀ m H x y d1 d2 S d Q, Rp K m H x d1 → Rp K m H y d2 → SR C K m H S → g d1 d2 S = some d →
  (∀ v m' H', Ev m H m' H' → SR C K m' H' S → Rp K m' H' v d → Q v H') → r x y H Q
theorem s_op {r : R2} {g : Op2} {f1 f2 : E} {ta tb : TE} (h : R2Sem C K r g) (h1 : ESem C K ta f1) (h2 : ESem C K tb f2) : ESem C K (tOp r ta tb) (eOp g f1 f2) := fun m σ H δ S d S' Q er sr hf q => by
  unfold eOp at hf
  obtain ⟨⟨d1, S1⟩, q1, hf⟩ := Option.bind_eq_some_iff.mp hf
  obtain ⟨⟨d2, S2⟩, q2, hf⟩ := Option.bind_eq_some_iff.mp hf
  obtain ⟨d3, q3, hf⟩ := Option.bind_eq_some_iff.mp hf
  cases hf
  refine h1 m σ H δ S d1 S1 _ er sr q1 fun v m1 H1 e1 s1 r1 => ?_
  refine h2 m1 σ H1 δ S1 d2 S2 _ (er.ev e1) s1 q2 fun u m2 H2 e2 s2 r2 => ?_
  refine h m2 H2 v u d1 d2 S2 d _ (r1.ev e2) r2 s2 q3 fun w m3 H3 e3 s3 r3 => ?_
  exact q w m3 H3 (e1.trans (e2.trans e3)) s3 r3
def rAddX (K : PySem.W.Frag) : R2 := fun x y H Q => (rI0 (fun i j => .int (i + j))) x y H Q ∨ (∃ i j, x = .str i ∧ y = .str j ∧ i.length + j.length ≤ sizeLine ∧ Q (.str (i ++ j)) H) ∨ rCatA K x y H Q ∨ L2.rCat x y H Q
theorem op_addX : OpR X (binaryOp .Add) (rAddX X.K) := op_add.or (op_add_str.or (op_catA.or op_cat))
def dAdd : Op2 := fun d e S => match d, e with
  | .int i, .int j => some (.int (i + j))
  | .str x, .str y => if x.length + y.length ≤ sizeLine then some (.str (x ++ y)) else none
  | .tup a, .tup b => if a.length + b.length ≤ sizeLine then some (.tup (a ++ b)) else none
  | .lst a, .lst b => if a.length + b.length ≤ sizeLine then some (.lst (a ++ b)) else none
  | _, _ => none
theorem s_addX : R2Sem C K (rAddX K) dAdd := fun m H x y d1 d2 S d Q r1 r2 sr hf q => by
  unfold dAdd at hf
  split at hf
  · cases hf; cases r1; cases r2; exact .inl ⟨_, _, rfl, rfl, q _ m H .refl sr (.int _)⟩
  · split at hf
    · rename_i hl
      cases hf; cases r1; cases r2; exact .inr (.inl ⟨_, _, rfl, rfl, hl, q _ m H .refl sr (.str _)⟩)
    · cases hf
  · split at hf
    · rename_i hl
      cases hf
      cases r1 with
      | tup h1 q1 =>
        cases r2 with
        | tup h2 q2 =>
          refine .inr (.inr (.inl ⟨_, _, _, _, rfl, rfl, h1, h2, by rw [q1.length, q2.length]; exact hl, fun e => ?_, fun _ e => ?_, fun _ _ p hp => ?_⟩))
          · subst e
            cases q1
            exact q _ m H .refl sr (.tup h2 q2)
          · subst e
            cases q2
            exact q _ m H .refl sr (.tup h1 (by rw [List.append_nil]; exact q1))
          · exact q _ m _ (.lay hp) (sr.lay hp) (.tup (.of upd_same) ((q1.append q2).ev (.lay hp)))
    · cases hf
  · split at hf
    · rename_i hl
      cases hf
      cases r1 with
      | lst h1 n1 q1 =>
        cases r2 with
        | lst h2 n2 q2 =>
          refine .inr (.inr (.inr ⟨_, _, _, _, rfl, rfl, h1, h2, by rw [q1.length, q2.length]; exact hl, fun p hp => ?_⟩))
          exact q _ m _ (.lay hp) (sr.lay hp) (.lst upd_same (sr.notin hp) ((q1.append q2).ev (.lay hp)))
    · cases hf
  · cases hf
theorem re_add (ha : RE X C a ta fa) (hb : RE X C b tb fb) : RE X C (.BinOp a .Add b pos) (tOp (rAddX X.K) ta tb) (eOp dAdd fa fb) := ⟨pe_op op_addX ha.p hb.p, s_op s_addX ha.s hb.s⟩
def dInt (g : Int → Int → Option Int) : Op2 := fun d e _ => match d, e with
  | .int i, .int j => (g i j).bind fun k => some (.int k)
  | _, _ => none
theorem s_rI {Cd : Int → Int → Prop} {g : Int → Int → Int} {g' : Int → Int → Option Int} (hc : ∀ i j k, g' i j = some k → Cd i j ∧ k = g i j) : R2Sem C K (rI Cd fun i j => .int (g i j)) (dInt g') := fun m H x y d1 d2 S d Q r1 r2 sr hf q => by
  unfold dInt at hf
  split at hf
  · obtain ⟨k, hk, h2⟩ := Option.bind_eq_some_iff.mp hf
    cases h2
    obtain ⟨h1, e⟩ := hc _ _ _ hk
    subst e
    cases r1; cases r2
    exact ⟨_, _, rfl, rfl, h1, q _ m H .refl sr (.int _)⟩
  · cases hf
def gSub (i j : Int) : Option Int := some (i - j)
def gMul (i j : Int) : Option Int := if (-(2 ^ 64) < i ∧ i < 2 ^ 64) ∨ (-(2 ^ 64) < j ∧ j < 2 ^ 64) then some (i * j) else none
def gDiv (i j : Int) : Option Int := if 0 < j ∧ j < 1073741824 then some (i / j) else none
def gMod (i j : Int) : Option Int := if 0 < j then some (i % j) else none
def gPow (i j : Int) : Option Int := if 0 ≤ j ∧ j ≤ 1000000 ∧ i.natAbs < 2 ^ 64 then some (i ^ j.toNat) else none
theorem re_sub (ha : RE X C a ta fa) (hb : RE X C b tb fb) : RE X C (.BinOp a .Sub b pos) (tOp (rI (fun _ _ => True) fun i j => .int (i - j)) ta tb) (eOp (dInt gSub) fa fb) :=
  ⟨pe_op (by intro pins s σ H x y v u Q I rx ry h; obtain ⟨i, j, e1, e2, _, q⟩ := h; exact op_sub pins s σ H x y v u Q I rx ry ⟨i, j, e1, e2, q⟩) ha.p hb.p, s_op (s_rI fun i j k h => by cases h; exact ⟨trivial, rfl⟩) ha.s hb.s⟩
theorem re_div (ha : RE X C a ta fa) (hb : RE X C b tb fb) : RE X C (.BinOp a .FloorDiv b pos) (tOp (rI CDiv fun i j => .int (i / j)) ta tb) (eOp (dInt gDiv) fa fb) :=
  ⟨pe_op op_fdiv ha.p hb.p, s_op (s_rI fun i j k h => by
    unfold gDiv at h
    split at h
    · cases h; exact ⟨by assumption, rfl⟩
    · cases h) ha.s hb.s⟩
theorem re_mod (ha : RE X C a ta fa) (hb : RE X C b tb fb) : RE X C (.BinOp a .Mod b pos) (tOp (rI (fun _ j => 0 < j) fun i j => .int (i % j)) ta tb) (eOp (dInt gMod) fa fb) :=
  ⟨pe_op op_mod ha.p hb.p, s_op (s_rI fun i j k h => by
    unfold gMod at h
    split at h
    · cases h; exact ⟨by assumption, rfl⟩
    · cases h) ha.s hb.s⟩
theorem re_pow (ha : RE X C a ta fa) (hb : RE X C b tb fb) : RE X C (.BinOp a .Pow b pos) (tOp (rI CPow fun i j => .int (i ^ j.toNat)) ta tb) (eOp (dInt gPow) fa fb) :=
  ⟨pe_op op_pow ha.p hb.p, s_op (s_rI fun i j k h => by
    unfold gPow at h
    split at h
    · cases h; exact ⟨by assumption, rfl⟩
    · cases h) ha.s hb.s⟩
/-- a product of ints; a list so many times -/
def rMulX : R2 := fun x y H Q => rI CMul (fun i j => .int (i * j)) x y H Q ∨ rRep x y H Q
def dMul : Op2 := fun d e S => match d, e with
  | .int i, .int j => (gMul i j).bind fun k => some (.int k)
  | .lst a, .int k => if 0 ≤ k ∧ k < 2 ^ 63 ∧ a.length * k.toNat ≤ sizeLine then some (.lst (List.replicate k.toNat a).flatten) else none
  | _, _ => none
theorem RpAll.rep {K : PySem.W.Frag} {m : M} {H : Hp} {xs : List V} {ds : List D} (h : RpAll K m H xs ds) : ∀ k : Nat, RpAll K m H (List.replicate k xs).flatten (List.replicate k ds).flatten
  | 0 => .nil
  | k + 1 => by
    rw [List.replicate_succ, List.replicate_succ, List.flatten_cons, List.flatten_cons]
    exact h.append (RpAll.rep h k)
theorem s_mulX : R2Sem C K rMulX dMul := fun m H x y d1 d2 S d Q r1 r2 sr hf q => by
  unfold dMul at hf
  split at hf
  · obtain ⟨k, hk, h2⟩ := Option.bind_eq_some_iff.mp hf
    cases h2
    unfold gMul at hk
    split at hk
    · rename_i hc
      cases hk
      cases r1; cases r2
      exact .inl ⟨_, _, rfl, rfl, hc, q _ m H .refl sr (.int _)⟩
    · cases hk
  · split at hf
    · rename_i hc
      cases hf
      cases r1 with
      | lst h1 n1 q1 =>
        cases r2
        refine .inr ⟨_, _, _, rfl, rfl, h1, by omega, hc.2.1, by rw [q1.length]; exact hc.2.2, fun p hp => ?_⟩
        exact q _ m _ (.lay hp) (sr.lay hp) (.lst upd_same (sr.notin hp) ((q1.rep _).ev (.lay hp)))
    · cases hf
  · cases hf
theorem re_mul (ha : RE X C a ta fa) (hb : RE X C b tb fb) : RE X C (.BinOp a .Mult b pos) (tOp rMulX ta tb) (eOp dMul fa fb) := ⟨pe_op (op_mul.or op_rep) ha.p hb.p, s_op s_mulX ha.s hb.s⟩
def eNeg (f : E) : E := fun δ S => (f δ S).bind fun p => match p.1 with | .int i => some (.int (-i), p.2) | _ => none
theorem re_neg (ha : RE X C a ta fa) : RE X C (.UnaryOp .USub a pos) (tUn (rU fun i => .int (-i)) ta) (eNeg fa) :=
  ⟨pe_un un_neg ha.p, fun m σ H δ S d S' Q er sr hf q => by
    unfold eNeg at hf
    obtain ⟨⟨d1, S1⟩, q1, hf⟩ := Option.bind_eq_some_iff.mp hf
    split at hf
    · rename_i i hi
      cases hf
      have hi : d1 = .int i := hi
      subst hi
      refine ha.s m σ H δ S _ _ _ er sr q1 fun v m1 H1 e1 s1 r1 => ?_
      cases r1
      exact ⟨_, rfl, q _ m1 H1 e1 s1 (.int _)⟩
    · cases hf⟩

/-! ### comparisons -/
mutual
def py : D → PyData
  | .non => .none | .bl b => .bool b | .int i => .int i | .str x => .str x
  | .tup xs => .tuple (pyL xs) | .lst xs => .list (pyL xs) | .scr ns => .list (ns.map .int) | .dic _ => .dict [] | .ref _ => .dict [] | .tun _ => .dict [] | .fn _ => .dict []
def pyL : List D → List PyData
  | [] => []
  | d :: ds => py d :: pyL ds
end
def pyS (S : List O) : D → PyData
  | .ref n => match S[n]? with | some (.lst xs) => .list (pyL xs) | _ => .dict []
  | d => py d
theorem dp_ints {K : PySem.W.Frag} {H : Hp} : ∀ ns : List Int, DpAll K H (ns.map V.int) (ns.map PyData.int)
  | [] => .nil
  | n :: ns => .cons (.int n) (dp_ints ns)
mutual
theorem Rp.dp {m : M} {H : Hp} : ∀ {v : V} {d : D}, Rp K m H v d → (py d).canLay0 = true → Dp K H v (py d)
  | _, _, .non, _ => .non
  | _, _, .bl b, _ => .bl b
  | _, _, .int i, _ => .int i
  | _, _, .str x, _ => .str x
  | _, _, .tup h r, c => .tup h (RpAll.dp r (by simpa [py, PyData.canLay0] using c))
  | _, _, .lst h n r, c => .lst (.of h) (RpAll.dp r (by simpa [py, PyData.canLay0] using c))
  | _, _, .scr h, c => .lst h.sq (dp_ints _)
  | _, _, .dic h n k r, c => by simp [py, PyData.canLay0] at c
  | _, _, .ref h, c => by simp [py, PyData.canLay0] at c
  | _, _, .tun _ _ _ _, c => by simp [py, PyData.canLay0] at c
  | _, _, .fn _, c => by simp [py, PyData.canLay0] at c
theorem RpAll.dp {m : M} {H : Hp} : ∀ {vs : List V} {ds : List D}, RpAll K m H vs ds → PyData.canLayAll0 (pyL ds) = true → DpAll K H vs (pyL ds)
  | _, _, .nil, _ => .nil
  | _, _, .cons r rs, c => by
    simp only [pyL, PyData.canLayAll0, Bool.and_eq_true] at c
    exact .cons (Rp.dp r c.1) (RpAll.dp rs c.2)
end
theorem Rp.dpS {m : M} {H : Hp} {S : List O} {v : V} {d : D} (s : SR C K m H S) (r : Rp K m H v d) (c : (pyS S d).canLay0 = true) : Dp K H v (pyS S d) := by
  cases r with
  | @ref a n hn =>
    cases hs : S[n]? with
    | none => simp [pyS, hs, PyData.canLay0] at c
    | some ob =>
      cases ob with
      | lst xs =>
        obtain ⟨vs, h1, h2⟩ := s.obj _ _ _ hn hs
        have e : pyS S (.ref n) = .list (pyL xs) := by simp [pyS, hs]
        rw [e] at c ⊢
        exact .lst (.of h1) (h2.dp (by simpa [PyData.canLay0] using c))
      | dic ks => simp [pyS, hs, PyData.canLay0] at c
      | ins ks => simp [pyS, hs, PyData.canLay0] at c
  | non => exact .non
  | bl b => exact .bl b
  | int b => exact .int b
  | str b => exact .str b
  | tup h q => exact Rp.dp (.tup h q) c
  | lst h n q => exact Rp.dp (.lst h n q) c
  | scr h => exact Rp.dp (m := m) (.scr h) c
  | dic h n k q => exact Rp.dp (.dic h n k q) c
  | tun h h1 h2 q => exact Rp.dp (.tun h h1 h2 q) c
  | fn h => exact Rp.dp (m := m) (.fn h) c
def rEqL (K : PySem.W.Frag) (L : Nat) : R2 := fun x y H Q => ∃ d e, Dp K H x d ∧ Dp K H y e ∧ d.canLay0 = true ∧ e.canLay0 = true ∧ min d.depth e.depth ≤ L ∧ Q (.bl (PyData.eqv d e)) H
def rNeL (K : PySem.W.Frag) (L : Nat) : R2 := fun x y H Q => ∃ d e, Dp K H x d ∧ Dp K H y e ∧ d.canLay0 = true ∧ e.canLay0 = true ∧ min d.depth e.depth ≤ L ∧ Q (.bl (!PyData.eqv d e)) H
theorem op_eqL {L : Nat} (hu : X.A.units + L < cLine) : OpR X (compareOp .Eq) (rEqL X.K L) := by
  intro pins s σ H x y v u Q I rx ry h
  obtain ⟨d, e, hd, he, sd, se, hl, q⟩ := h
  obtain ⟨as, r1⟩ := Dp.reads I d x v hd rx
  obtain ⟨bs, r2⟩ := Dp.reads I e y u he ry
  exact SeqAt.compareEq_reads r1 r2 sd se (by omega) ⟨.bl _, H, I, rfl, q⟩
theorem op_neL {L : Nat} (hu : X.A.units + L < cLine) : OpR X (compareOp .NotEq) (rNeL X.K L) := by
  intro pins s σ H x y v u Q I rx ry h
  obtain ⟨d, e, hd, he, sd, se, hl, q⟩ := h
  obtain ⟨as, r1⟩ := Dp.reads I d x v hd rx
  obtain ⟨bs, r2⟩ := Dp.reads I e y u he ry
  exact SeqAt.compareNe_reads r1 r2 sd se (by omega) ⟨.bl _, H, I, rfl, q⟩
def dEqv (L : Nat) (S : List O) : D → D → Option Bool
  | .str x, .str y => some (decide (x = y))
  | .int i, .int j => some (decide (i = j))
  | .bl i, .bl j => some (decide (i = j))
  | .non, .str _ => some false
  | .str _, .non => some false
  | .int _, .str _ => some false
  | .str _, .int _ => some false
  | d, e => if (pyS S d).canLay0 = true ∧ (pyS S e).canLay0 = true ∧ min (pyS S d).depth (pyS S e).depth ≤ L then some (PyData.eqv (pyS S d) (pyS S e)) else none
def dEq (L : Nat) : Op2 := fun d e S => (dEqv L S d e).bind fun k => some (.bl k)
def dNe (L : Nat) : Op2 := fun d e S => (dEqv L S d e).bind fun k => some (.bl (!k))
theorem int_dec {i j : Int} : decide (V.int i = V.int j) = decide (i = j) := by simp
theorem str_dec {i j : Str} : decide (V.str i = V.str j) = decide (i = j) := by simp
theorem bl_dec {i j : Bool} : decide (V.bl i = V.bl j) = decide (i = j) := by rw [dec_bl]; cases i <;> cases j <;> rfl
theorem s_eqv {L : Nat} {m : M} {H : Hp} {x y : V} {d e : D} {S : List O} {k : Bool} (r1 : Rp K m H x d) (r2 : Rp K m H y e) (sr : SR C K m H S) (h : dEqv L S d e = some k) :
    (scal x y = true ∧ decide (x = y) = k) ∨ ∃ d e, Dp K H x d ∧ Dp K H y e ∧ d.canLay0 = true ∧ e.canLay0 = true ∧ min d.depth e.depth ≤ L ∧ PyData.eqv d e = k := by
  unfold dEqv at h
  split at h
  · cases h; cases r1; cases r2; exact .inl ⟨rfl, str_dec⟩
  · cases h; cases r1; cases r2; exact .inl ⟨rfl, int_dec⟩
  · cases h; cases r1; cases r2; exact .inl ⟨rfl, bl_dec⟩
  · cases h; cases r1; cases r2; exact .inl ⟨rfl, decide_eq_false (fun z => nomatch z)⟩
  · cases h; cases r1; cases r2; exact .inl ⟨rfl, decide_eq_false (fun z => nomatch z)⟩
  · cases h; cases r1; cases r2; exact .inl ⟨rfl, decide_eq_false (fun z => nomatch z)⟩
  · cases h; cases r1; cases r2; exact .inl ⟨rfl, decide_eq_false (fun z => nomatch z)⟩
  · split at h
    · rename_i hc
      cases h
      exact .inr ⟨_, _, r1.dpS sr hc.1, r2.dpS sr hc.2.1, hc.1, hc.2.1, hc.2.2, rfl⟩
    · cases h
def rEqX (K : PySem.W.Frag) (L : Nat) : R2 := fun x y H Q => rEq x y H Q ∨ rEqL K L x y H Q
def rNeX (K : PySem.W.Frag) (L : Nat) : R2 := fun x y H Q => rNe x y H Q ∨ rNeL K L x y H Q
theorem s_eqX {L : Nat} : R2Sem C K (rEqX K L) (dEq L) := fun m H x y d1 d2 S d Q r1 r2 sr hf q => by
  unfold dEq at hf
  obtain ⟨k, hk, h2⟩ := Option.bind_eq_some_iff.mp hf
  cases h2
  rcases s_eqv r1 r2 sr hk with ⟨h1, h2⟩ | ⟨d, e, h1, h2, h3, h4, h5, h6⟩
  · exact .inl ⟨h1, by rw [h2]; exact q _ m H .refl sr (.bl _)⟩
  · exact .inr ⟨d, e, h1, h2, h3, h4, h5, by rw [h6]; exact q _ m H .refl sr (.bl _)⟩
theorem s_neX {L : Nat} : R2Sem C K (rNeX K L) (dNe L) := fun m H x y d1 d2 S d Q r1 r2 sr hf q => by
  unfold dNe at hf
  obtain ⟨k, hk, h2⟩ := Option.bind_eq_some_iff.mp hf
  cases h2
  rcases s_eqv r1 r2 sr hk with ⟨h1, h2⟩ | ⟨d, e, h1, h2, h3, h4, h5, h6⟩
  · exact .inl ⟨h1, by rw [h2]; exact q _ m H .refl sr (.bl _)⟩
  · exact .inr ⟨d, e, h1, h2, h3, h4, h5, by rw [h6]; exact q _ m H .refl sr (.bl _)⟩
theorem re_eq {L : Nat} (hu : X.A.units + L < cLine) (ha : RE X C a ta fa) (hb : RE X C b tb fb) : RE X C (.Compare a [.Eq] [b] pos) (tOp (rEqX X.K L) ta tb) (eOp (dEq L) fa fb) := ⟨pe_cmpR (op_eq.or (op_eqL hu)) ha.p hb.p (nomark _), s_op s_eqX ha.s hb.s⟩
theorem re_ne {L : Nat} (hu : X.A.units + L < cLine) (ha : RE X C a ta fa) (hb : RE X C b tb fb) : RE X C (.Compare a [.NotEq] [b] pos) (tOp (rNeX X.K L) ta tb) (eOp (dNe L) fa fb) := ⟨pe_cmpR (op_ne.or (op_neL hu)) ha.p hb.p (nomark _), s_op s_neX ha.s hb.s⟩
def dCmp (g : Int → Int → Bool) : Op2 := fun d e _ => match d, e with
  | .int i, .int j => some (.bl (g i j))
  | _, _ => none
theorem s_rI0 {g : Int → Int → Bool} : R2Sem C K (rI0 fun i j => .bl (g i j)) (dCmp g) := fun m H x y d1 d2 S d Q r1 r2 sr hf q => by
  unfold dCmp at hf
  split at hf
  · cases hf; cases r1; cases r2
    exact ⟨_, _, rfl, rfl, q _ m H .refl sr (.bl _)⟩
  · cases hf
theorem re_lt (ha : RE X C a ta fa) (hb : RE X C b tb fb) : RE X C (.Compare a [.Lt] [b] pos) (tOp (rI0 fun i j => .bl (decide (i < j))) ta tb) (eOp (dCmp fun i j => decide (i < j)) fa fb) := ⟨pe_cmpR op_lt ha.p hb.p (nomark _), s_op s_rI0 ha.s hb.s⟩
theorem re_le (ha : RE X C a ta fa) (hb : RE X C b tb fb) : RE X C (.Compare a [.LtE] [b] pos) (tOp (rI0 fun i j => .bl (decide (i ≤ j))) ta tb) (eOp (dCmp fun i j => decide (i ≤ j)) fa fb) := ⟨pe_cmpR op_le ha.p hb.p (nomark _), s_op s_rI0 ha.s hb.s⟩
theorem re_gt (ha : RE X C a ta fa) (hb : RE X C b tb fb) : RE X C (.Compare a [.Gt] [b] pos) (tOp (rI0 fun i j => .bl (decide (i > j))) ta tb) (eOp (dCmp fun i j => decide (i > j)) fa fb) := ⟨pe_cmpR op_gt ha.p hb.p (nomark _), s_op s_rI0 ha.s hb.s⟩
theorem re_ge (ha : RE X C a ta fa) (hb : RE X C b tb fb) : RE X C (.Compare a [.GtE] [b] pos) (tOp (rI0 fun i j => .bl (decide (i ≥ j))) ta tb) (eOp (dCmp fun i j => decide (i ≥ j)) fa fb) := ⟨pe_cmpR op_ge ha.p hb.p (nomark _), s_op s_rI0 ha.s hb.s⟩
def isNon : D → Bool
  | .non => true
  | _ => false
def eIsN (neg : Bool) (f : E) : E := fun δ S => (f δ S).bind fun p => some (.bl (if neg then !isNon p.1 else isNon p.1), p.2)
theorem Rp.isNon {m : M} {H : Hp} {v : V} {d : D} (r : Rp K m H v d) : decide (v = .non) = Cb.isNon d := by
  cases r <;> simp [Cb.isNon]
theorem re_is {j p2} (ha : RE X C a ta fa) : RE X C (.Compare a [.Is] [.Constant .none j p2] pos) (tOp (fun x y H Q => y = .non ∧ Q (.bl (decide (x = .non))) H) ta (tC .non)) (eIsN false fa) :=
  ⟨pe_cmpR op_isN ha.p pe_non (nomark _), fun m σ H δ S d S' Q er sr hf q => by
    unfold eIsN at hf
    obtain ⟨⟨d1, S1⟩, q1, hf⟩ := Option.bind_eq_some_iff.mp hf
    cases hf
    refine ha.s m σ H δ S _ _ _ er sr q1 fun v m1 H1 e1 s1 r1 => ?_
    exact ⟨rfl, by rw [r1.isNon]; exact q _ m1 H1 e1 s1 (.bl _)⟩⟩
theorem re_isnot {j p2} (ha : RE X C a ta fa) : RE X C (.Compare a [.IsNot] [.Constant .none j p2] pos) (tOp (fun x y H Q => y = .non ∧ Q (.bl (!decide (x = .non))) H) ta (tC .non)) (eIsN true fa) :=
  ⟨pe_cmpR op_notN ha.p pe_non (nomark _), fun m σ H δ S d S' Q er sr hf q => by
    unfold eIsN at hf
    obtain ⟨⟨d1, S1⟩, q1, hf⟩ := Option.bind_eq_some_iff.mp hf
    cases hf
    refine ha.s m σ H δ S _ _ _ er sr q1 fun v m1 H1 e1 s1 r1 => ?_
    exact ⟨rfl, by rw [r1.isNon]; exact q _ m1 H1 e1 s1 (.bl _)⟩⟩
end
end Cb
namespace Cb
open PySem L2

section
variable {X : Cx} {C : Addr} {pos : Pos} {a b c e : Expr} {es : List Expr} {ta tb tc te : TE} {tA : TA} {fa fb fc f : E} {g : A}

/-! ### tests -/
def tOf (f : E) : T := fun δ S => (f δ S).bind fun p => match p.1 with | .bl b => some (b, p.2) | _ => none
theorem s_tOf {t : TE} {K : PySem.W.Frag} (h : ESem C K t f) : TSem C K (tTest t) (tOf f) := fun m σ H δ S b S' Q er sr hf q => by
  unfold tOf at hf
  obtain ⟨⟨d1, S1⟩, q1, hf⟩ := Option.bind_eq_some_iff.mp hf
  split at hf
  · rename_i k hk
    have hk : d1 = .bl k := hk
    subst hk
    cases hf
    refine h m σ H δ S _ _ _ er sr q1 fun v m1 H1 e1 s1 r1 => ?_
    cases r1
    exact ⟨_, rfl, q m1 H1 e1 s1⟩
  · cases hf
theorem s_tOfB {t : TE} {K : PySem.W.Frag} (h : ESem C K t f) : TSem C K (tB t) (tOf f) := s_tOf h
/-- a comparison, as a value and as a test -/
structure RC (X : Cx) (C : Addr) (e : Expr) (t : TE) (f : E) : Prop where
  p : PE X e t
  q : PT X e (tTest t)
  s : ESem C X.K t f
theorem re_c (h : RC X C e te f) : RE X C e te f := ⟨h.p, h.s⟩
theorem rt_c (h : RC X C e te f) : RT X C e (tTest te) (tOf f) := ⟨h.q, s_tOf h.s⟩
theorem rc_op {op : CmpOp} {r : R2} {gg : Op2} (ho : OpR X (compareOp op) r) (hs : R2Sem C X.K r gg) (ha : RE X C a ta fa) (hb : RE X C b tb fb) (hm : behindInMarks op b = false) : RC X C (.Compare a [op] [b] pos) (tOp r ta tb) (eOp gg fa fb) :=
  ⟨pe_cmpR ho ha.p hb.p hm, pt_cmpR ho ha.p hb.p hm, s_op hs ha.s hb.s⟩
theorem rc_eq {L : Nat} (hu : X.A.units + L < cLine) (ha : RE X C a ta fa) (hb : RE X C b tb fb) : RC X C (.Compare a [.Eq] [b] pos) (tOp (rEqX X.K L) ta tb) (eOp (dEq L) fa fb) := rc_op (op_eq.or (op_eqL hu)) s_eqX ha hb (nomark _)
theorem rc_ne {L : Nat} (hu : X.A.units + L < cLine) (ha : RE X C a ta fa) (hb : RE X C b tb fb) : RC X C (.Compare a [.NotEq] [b] pos) (tOp (rNeX X.K L) ta tb) (eOp (dNe L) fa fb) := rc_op (op_ne.or (op_neL hu)) s_neX ha hb (nomark _)
theorem rc_lt (ha : RE X C a ta fa) (hb : RE X C b tb fb) : RC X C (.Compare a [.Lt] [b] pos) (tOp (rI0 fun i j => .bl (decide (i < j))) ta tb) (eOp (dCmp fun i j => decide (i < j)) fa fb) := rc_op op_lt s_rI0 ha hb (nomark _)
theorem rc_le (ha : RE X C a ta fa) (hb : RE X C b tb fb) : RC X C (.Compare a [.LtE] [b] pos) (tOp (rI0 fun i j => .bl (decide (i ≤ j))) ta tb) (eOp (dCmp fun i j => decide (i ≤ j)) fa fb) := rc_op op_le s_rI0 ha hb (nomark _)
theorem rc_gt (ha : RE X C a ta fa) (hb : RE X C b tb fb) : RC X C (.Compare a [.Gt] [b] pos) (tOp (rI0 fun i j => .bl (decide (i > j))) ta tb) (eOp (dCmp fun i j => decide (i > j)) fa fb) := rc_op op_gt s_rI0 ha hb (nomark _)
theorem rc_ge (ha : RE X C a ta fa) (hb : RE X C b tb fb) : RC X C (.Compare a [.GtE] [b] pos) (tOp (rI0 fun i j => .bl (decide (i ≥ j))) ta tb) (eOp (dCmp fun i j => decide (i ≥ j)) fa fb) := rc_op op_ge s_rI0 ha hb (nomark _)
def dIsN (neg : Bool) : Op2 := fun d e _ => match e with | .non => some (.bl (if neg then !isNon d else isNon d)) | _ => none
theorem s_isN {K : PySem.W.Frag} : R2Sem C K (fun x y H Q => y = .non ∧ Q (.bl (decide (x = .non))) H) (dIsN false) := fun m H x y d1 d2 S d Q r1 r2 sr hf q => by
  unfold dIsN at hf
  split at hf
  · cases hf; cases r2
    exact ⟨rfl, by rw [r1.isNon]; exact q _ m H .refl sr (.bl _)⟩
  · cases hf
theorem s_notN {K : PySem.W.Frag} : R2Sem C K (fun x y H Q => y = .non ∧ Q (.bl (!decide (x = .non))) H) (dIsN true) := fun m H x y d1 d2 S d Q r1 r2 sr hf q => by
  unfold dIsN at hf
  split at hf
  · cases hf; cases r2
    exact ⟨rfl, by rw [r1.isNon]; exact q _ m H .refl sr (.bl _)⟩
  · cases hf
theorem rc_is (ha : RE X C a ta fa) (hb : RE X C b tb fb) : RC X C (.Compare a [.Is] [b] pos) (tOp (fun x y H Q => y = .non ∧ Q (.bl (decide (x = .non))) H) ta tb) (eOp (dIsN false) fa fb) := rc_op op_isN s_isN ha hb (nomark _)
theorem rc_isnot (ha : RE X C a ta fa) (hb : RE X C b tb fb) : RC X C (.Compare a [.IsNot] [b] pos) (tOp (fun x y H Q => y = .non ∧ Q (.bl (!decide (x = .non))) H) ta tb) (eOp (dIsN true) fa fb) := rc_op op_notN s_notN ha hb (nomark _)
/-- lo ? x ? hi -/
def eChain (g1 g2 : Op2) (f1 f2 f3 : E) : E := fun δ S => (f1 δ S).bind fun p => (f2 δ p.2).bind fun q => (g1 p.1 q.1 q.2).bind fun d => match d with
  | .bl true => (f3 δ q.2).bind fun r => (g2 q.1 r.1 r.2).bind fun d => some (d, r.2)
  | .bl false => some (.bl false, q.2)
  | _ => none
theorem s_chain {K : PySem.W.Frag} {r r' : R2} {g1 g2 : Op2} (hs1 : R2Sem C K r g1) (hs2 : R2Sem C K r' g2) (h1 : ESem C K ta fa) (h2 : ESem C K tb fb) (h3 : ESem C K tc fc) : ESem C K (tChain r r' ta tb tc) (eChain g1 g2 fa fb fc) := fun m σ H δ S d S' Q er sr hf q => by
  unfold eChain at hf
  obtain ⟨⟨d1, S1⟩, q1, hf⟩ := Option.bind_eq_some_iff.mp hf
  obtain ⟨⟨d2, S2⟩, q2, hf⟩ := Option.bind_eq_some_iff.mp hf
  obtain ⟨d3, q3, hf⟩ := Option.bind_eq_some_iff.mp hf
  refine h1 m σ H δ S d1 S1 _ er sr q1 fun v m1 H1 e1 s1 r1 => ?_
  refine h2 m1 σ H1 δ S1 d2 S2 _ (er.ev e1) s1 q2 fun u m2 H2 e2 s2 r2 => ?_
  refine hs1 m2 H2 v u d1 d2 S2 d3 _ (r1.ev e2) r2 s2 q3 fun w m3 H3 e3 s3 r3 => ?_
  split at hf
  · obtain ⟨⟨d4, S4⟩, q4, hf⟩ := Option.bind_eq_some_iff.mp hf
    obtain ⟨d5, q5, hf⟩ := Option.bind_eq_some_iff.mp hf
    cases hf
    cases r3
    refine ⟨_, rfl, iteT ?_⟩
    refine h3 m3 σ H3 δ S2 d4 S4 _ (er.ev (e1.trans (e2.trans e3))) s3 q4 fun w m4 H4 e4 s4 r4 => ?_
    exact hs2 m4 H4 u w d2 d4 S4 _ _ (r2.ev (e3.trans e4)) r4 s4 q5 fun z m5 H5 e5 s5 r5 => q z m5 H5 (e1.trans (e2.trans (e3.trans (e4.trans e5)))) s5 r5
  · cases hf
    cases r3
    exact ⟨_, rfl, iteF (q _ m3 H3 (e1.trans (e2.trans e3)) s3 (.bl _))⟩
  · cases hf
theorem rc_chain {op op' : CmpOp} {r r' : R2} {g1 g2 : Op2} (ho : OpR X (compareOp op) r) (ho' : OpR X (compareOp op') r') (hs1 : R2Sem C X.K r g1) (hs2 : R2Sem C X.K r' g2) (ha : RE X C a ta fa) (hb : RE X C b tb fb) (hc : RE X C c tc fc)
    (hm : lastMarks [op, op'] [b, c] = false := by with_unfolding_all rfl) : RC X C (.Compare a [op, op'] [b, c] pos) (tChain r r' ta tb tc) (eChain g1 g2 fa fb fc) :=
  ⟨pe_chain ho ho' ha.p hb.p hc.p hm, pt_chain ho ho' ha.p hb.p hc.p hm, s_chain hs1 hs2 ha.s hb.s hc.s⟩
theorem rc_lele (ha : RE X C a ta fa) (hb : RE X C b tb fb) (hc : RE X C c tc fc) (hm : lastMarks [.LtE, .LtE] [b, c] = false := by with_unfolding_all rfl) :
    RC X C (.Compare a [.LtE, .LtE] [b, c] pos) (tChain (rI0 fun i j => .bl (decide (i ≤ j))) (rI0 fun i j => .bl (decide (i ≤ j))) ta tb tc) (eChain (dCmp fun i j => decide (i ≤ j)) (dCmp fun i j => decide (i ≤ j)) fa fb fc) := rc_chain op_le op_le s_rI0 s_rI0 ha hb hc hm
theorem rc_ltlt (ha : RE X C a ta fa) (hb : RE X C b tb fb) (hc : RE X C c tc fc) (hm : lastMarks [.Lt, .Lt] [b, c] = false := by with_unfolding_all rfl) :
    RC X C (.Compare a [.Lt, .Lt] [b, c] pos) (tChain (rI0 fun i j => .bl (decide (i < j))) (rI0 fun i j => .bl (decide (i < j))) ta tb tc) (eChain (dCmp fun i j => decide (i < j)) (dCmp fun i j => decide (i < j)) fa fb fc) := rc_chain op_lt op_lt s_rI0 s_rI0 ha hb hc hm
/-- any expression that is True or False -/
theorem rt_val (h : RE X C e te f) (he : ∀ whole, isTrue e X.env whole = (do let v ← whole; standAt e.pos; holding [v] (truthy v)) := by intro _; rfl) : RT X C e (tB te) (tOf f) := ⟨pt_val h.p he, s_tOfB h.s⟩
structure RW (X : Cx) (C : Addr) (e : Expr) (t : TT) (f : T) : Prop where
  p : PW X e t
  s : TSem C X.K t f
def tfAnd (f g : T) : T := fun δ S => (f δ S).bind fun p => if p.1 = true then g δ p.2 else some (false, p.2)
def tfOr (f g : T) : T := fun δ S => (f δ S).bind fun p => if p.1 = true then some (true, p.2) else g δ p.2
def tfNot (f : T) : T := fun δ S => (f δ S).bind fun p => some (!p.1, p.2)
variable {t1 t2 : TT} {g1 g2 : T} {rest : List Expr}
theorem s_and {K : PySem.W.Frag} (h1 : TSem C K t1 g1) (h2 : TSem C K t2 g2) : TSem C K (tAnd t1 t2) (tfAnd g1 g2) := fun m σ H δ S b S' Q er sr hf q => by
  unfold tfAnd at hf
  obtain ⟨⟨b1, S1⟩, q1, hf⟩ := Option.bind_eq_some_iff.mp hf
  refine h1 m σ H δ S b1 S1 _ er sr q1 fun m1 H1 e1 s1 => ?_
  cases b1 with
  | true => exact iteT (h2 m1 σ H1 δ S1 b S' _ (er.ev e1) s1 hf fun m2 H2 e2 s2 => q m2 H2 (e1.trans e2) s2)
  | false => cases hf; exact iteF (q m1 H1 e1 s1)
theorem s_or {K : PySem.W.Frag} (h1 : TSem C K t1 g1) (h2 : TSem C K t2 g2) : TSem C K (tOr t1 t2) (tfOr g1 g2) := fun m σ H δ S b S' Q er sr hf q => by
  unfold tfOr at hf
  obtain ⟨⟨b1, S1⟩, q1, hf⟩ := Option.bind_eq_some_iff.mp hf
  refine h1 m σ H δ S b1 S1 _ er sr q1 fun m1 H1 e1 s1 => ?_
  cases b1 with
  | false => exact iteF (h2 m1 σ H1 δ S1 b S' _ (er.ev e1) s1 hf fun m2 H2 e2 s2 => q m2 H2 (e1.trans e2) s2)
  | true => cases hf; exact iteT (q m1 H1 e1 s1)
theorem rw_and1 (h : RT X C a t1 g1) : RW X C (.BoolOp .And [a] pos) t1 g1 := ⟨pw_and1 h.p, h.s⟩
theorem rw_or1 (h : RT X C a t1 g1) : RW X C (.BoolOp .Or [a] pos) t1 g1 := ⟨pw_or1 h.p, h.s⟩
theorem rw_and (h : RT X C a t1 g1) (h2 : RW X C (.BoolOp .And (b :: rest) pos) t2 g2) : RW X C (.BoolOp .And (a :: b :: rest) pos) (tAnd t1 t2) (tfAnd g1 g2) := ⟨pw_and h.p h2.p, s_and h.s h2.s⟩
theorem rw_or (h : RT X C a t1 g1) (h2 : RW X C (.BoolOp .Or (b :: rest) pos) t2 g2) : RW X C (.BoolOp .Or (a :: b :: rest) pos) (tOr t1 t2) (tfOr g1 g2) := ⟨pw_or h.p h2.p, s_or h.s h2.s⟩
theorem rt_w (h : RW X C e t1 g1) : RT X C e t1 g1 := ⟨h.p.pt, h.s⟩
theorem rt_not (h : RT X C a t1 g1) : RT X C (.UnaryOp .Not a pos) (tNot t1) (tfNot g1) := ⟨pt_not h.p, fun m σ H δ S b S' Q er sr hf q => by
  unfold tfNot at hf
  obtain ⟨⟨b1, S1⟩, q1, hf⟩ := Option.bind_eq_some_iff.mp hf
  cases hf
  exact h.s m σ H δ S b1 S1 _ er sr q1 fun m1 H1 e1 s1 => q m1 H1 e1 s1⟩
/-! as values -/
def eAnd (f g : E) : E := fun δ S => (f δ S).bind fun p => match p.1 with | .bl true => g δ p.2 | .bl false => some (.bl false, p.2) | _ => none
def eOr (f g : E) : E := fun δ S => (f δ S).bind fun p => match p.1 with | .bl true => some (.bl true, p.2) | .bl false => g δ p.2 | _ => none
def eNot (f : E) : E := fun δ S => (f δ S).bind fun p => match p.1 with | .bl b => some (.bl (!b), p.2) | _ => none
theorem re_one {op} (h : RE X C a ta fa) : RE X C (.BoolOp op [a] pos) ta fa := ⟨pe_one h.p, h.s⟩
theorem re_and (h : RE X C a ta fa) (h2 : RE X C (.BoolOp .And (b :: rest) pos) tb fb) : RE X C (.BoolOp .And (a :: b :: rest) pos) (tAndV ta tb) (eAnd fa fb) := ⟨pe_and h.p h2.p, fun m σ H δ S d S' Q er sr hf q => by
  unfold eAnd at hf
  obtain ⟨⟨d1, S1⟩, q1, hf⟩ := Option.bind_eq_some_iff.mp hf
  refine h.s m σ H δ S d1 S1 _ er sr q1 fun v m1 H1 e1 s1 r1 => ?_
  split at hf
  · rename_i hk
    have hk : d1 = .bl true := hk
    subst hk
    cases r1
    exact ⟨_, rfl, iteT (h2.s m1 σ H1 δ S1 d S' _ (er.ev e1) s1 hf fun v m2 H2 e2 s2 r2 => q v m2 H2 (e1.trans e2) s2 r2)⟩
  · rename_i hk
    have hk : d1 = .bl false := hk
    subst hk
    cases hf; cases r1
    exact ⟨_, rfl, iteF (q _ m1 H1 e1 s1 (.bl _))⟩
  · cases hf⟩
theorem re_or (h : RE X C a ta fa) (h2 : RE X C (.BoolOp .Or (b :: rest) pos) tb fb) : RE X C (.BoolOp .Or (a :: b :: rest) pos) (tOrV ta tb) (eOr fa fb) := ⟨pe_or h.p h2.p, fun m σ H δ S d S' Q er sr hf q => by
  unfold eOr at hf
  obtain ⟨⟨d1, S1⟩, q1, hf⟩ := Option.bind_eq_some_iff.mp hf
  refine h.s m σ H δ S d1 S1 _ er sr q1 fun v m1 H1 e1 s1 r1 => ?_
  split at hf
  · rename_i hk
    have hk : d1 = .bl true := hk
    subst hk
    cases hf; cases r1
    exact ⟨_, rfl, iteT (q _ m1 H1 e1 s1 (.bl _))⟩
  · rename_i hk
    have hk : d1 = .bl false := hk
    subst hk
    cases r1
    exact ⟨_, rfl, iteF (h2.s m1 σ H1 δ S1 d S' _ (er.ev e1) s1 hf fun v m2 H2 e2 s2 r2 => q v m2 H2 (e1.trans e2) s2 r2)⟩
  · cases hf⟩
theorem re_not (h : RE X C a ta fa) : RE X C (.UnaryOp .Not a pos) (tNotV ta) (eNot fa) := ⟨pe_not h.p, fun m σ H δ S d S' Q er sr hf q => by
  unfold eNot at hf
  obtain ⟨⟨d1, S1⟩, q1, hf⟩ := Option.bind_eq_some_iff.mp hf
  refine h.s m σ H δ S d1 S1 _ er sr q1 fun v m1 H1 e1 s1 r1 => ?_
  split at hf
  · rename_i k hk
    have hk : d1 = .bl k := hk
    subst hk
    cases hf; cases r1
    exact ⟨_, rfl, q _ m1 H1 e1 s1 (.bl _)⟩
  · cases hf⟩
/-- x or y of texts -/
def eOrS (f g : E) : E := fun δ S => (f δ S).bind fun p => match p.1 with | .str x => if x.length ≤ sizeLine then (if (x.length : Int) != 0 then some (.str x, p.2) else g δ p.2) else none | _ => none
theorem re_orS (h : RE X C a ta fa) (h2 : RE X C (.BoolOp .Or (b :: rest) pos) tb fb) : RE X C (.BoolOp .Or (a :: b :: rest) pos) (tOrT X.K ta tb) (eOrS fa fb) := ⟨pe_orT h.p h2.p, fun m σ H δ S d S' Q er sr hf q => by
  unfold eOrS at hf
  obtain ⟨⟨d1, S1⟩, q1, hf⟩ := Option.bind_eq_some_iff.mp hf
  refine h.s m σ H δ S d1 S1 _ er sr q1 fun v m1 H1 e1 s1 r1 => ?_
  split at hf
  · rename_i x hk
    have hk : d1 = .str x := hk
    subst hk
    split at hf
    · rename_i hl
      cases r1
      refine ⟨_, ⟨hl, rfl⟩, ?_⟩
      split at hf
      · rename_i hc
        cases hf
        rw [if_pos hc]
        exact q _ m1 H1 e1 s1 (.str _)
      · rename_i hc
        rw [if_neg hc]
        exact h2.s m1 σ H1 δ S1 d S' _ (er.ev e1) s1 hf fun v m2 H2 e2 s2 r2 => q v m2 H2 (e1.trans e2) s2 r2
    · cases hf
  · cases hf⟩
def eIf (f : T) (g h : E) : E := fun δ S => (f δ S).bind fun p => if p.1 = true then g δ p.2 else h δ p.2
theorem re_if (hc : RT X C c t1 g1) (ha : RE X C a ta fa) (hb : RE X C b tb fb) : RE X C (.IfExp c a b pos) (tIf t1 ta tb) (eIf g1 fa fb) := ⟨pe_ifExp hc.p ha.p hb.p, fun m σ H δ S d S' Q er sr hf q => by
  unfold eIf at hf
  obtain ⟨⟨b1, S1⟩, q1, hf⟩ := Option.bind_eq_some_iff.mp hf
  refine hc.s m σ H δ S b1 S1 _ er sr q1 fun m1 H1 e1 s1 => ?_
  cases b1 with
  | true => exact iteT (ha.s m1 σ H1 δ S1 d S' _ (er.ev e1) s1 hf fun v m2 H2 e2 s2 r2 => q v m2 H2 (e1.trans e2) s2 r2)
  | false => exact iteF (hb.s m1 σ H1 δ S1 d S' _ (er.ev e1) s1 hf fun v m2 H2 e2 s2 r2 => q v m2 H2 (e1.trans e2) s2 r2)⟩

/-! ### subscripts -/
def dIx : Op2 := fun d i S => match i with
  | .int i => match d with
    | .tup ds => atI ds i
    | .str z => if z.length ≤ sizeLine then (atI z.cps.toList i).bind fun c => some (.str ⟨#[c]⟩) else none
    | d => (seqL S d).bind fun ds => atI ds i
  | _ => none
theorem RpAll.atI {K : PySem.W.Frag} {m : M} {H : Hp} {vs : List V} {ds : List D} {i : Int} {d : D} (r : RpAll K m H vs ds) (h : L2.atI ds i = some d) : ∃ v, L2.atI vs i = some v ∧ Rp K m H v d := by
  unfold L2.atI at h ⊢
  rw [r.length]
  obtain ⟨j, h1, h2⟩ := Option.bind_eq_some_iff.mp h
  obtain ⟨v, h3, h4⟩ := r.get h2
  exact ⟨v, by rw [h1]; exact h3, h4⟩
theorem s_ix {K : PySem.W.Frag} : R2Sem C K (rIx K) dIx := fun m H x y d1 d2 S d Q r1 r2 sr hf q => by
  unfold dIx at hf
  split at hf
  · rename_i i
    cases r2
    split at hf
    · cases r1 with
      | tup h1 r =>
        obtain ⟨v, h2, h3⟩ := r.atI hf
        exact .inr (.inl ⟨_, _, _, v, rfl, rfl, h1, h2, q v m H .refl sr h3⟩)
    · split at hf
      · rename_i hl
        obtain ⟨c, h2, h3⟩ := Option.bind_eq_some_iff.mp hf
        cases h3
        cases r1
        exact .inr (.inr ⟨_, _, c, rfl, rfl, hl, h2, q _ m H .refl sr (.str _)⟩)
      · cases hf
    · obtain ⟨ds, h2, h3⟩ := Option.bind_eq_some_iff.mp hf
      obtain ⟨a, xs, e, h4, h5⟩ := rp_seqL sr r1 h2
      subst e
      obtain ⟨v, h6, h7⟩ := h5.atI h3
      exact .inl ⟨_, _, _, v, rfl, rfl, h4, h6, q v m H .refl sr h7⟩
  · cases hf
theorem re_ix (ha : RE X C a ta fa) (hb : RE X C b tb fb) (hs : PlainIx b := by exact fun _ _ => rfl) : RE X C (.Subscript a b pos) (tOp (rIx X.K) ta tb) (eOp dIx fa fb) := ⟨pe_ix ix_seq ha.p hb.p hs, s_op s_ix ha.s hb.s⟩
/-! slices -/
abbrev Pt := Sl → List O → Option (Option Int × List O)
def PtSem (C : Addr) (K : PySem.W.Frag) (t : TO) (f : Pt) : Prop := ∀ m σ H δ S b S' Q, ER K m H σ δ → SR C K m H S → f δ S = some (b, S') →
  (∀ m' H', Ev m H m' H' → SR C K m' H' S' → Q b H') → t σ H Q
structure RP (X : Cx) (C : Addr) (e : Option Expr) (t : TO) (f : Pt) : Prop where
  p : PO X e t
  s : PtSem C X.K t f
def ptN : Pt := fun _ S => some (none, S)
def ptS (f : E) : Pt := fun δ S => (f δ S).bind fun p => match p.1 with | .int i => some (some i, p.2) | _ => none
theorem rp_none : RP X C none tNoPart ptN := ⟨po_none, fun m σ H δ S b S' Q er sr hf q => by cases hf; exact q m H .refl sr⟩
theorem rp_some (h : RE X C e te f) : RP X C (some e) (tPart te) (ptS f) := ⟨po_some h.p, fun m σ H δ S b S' Q er sr hf q => by
  unfold ptS at hf
  obtain ⟨⟨d1, S1⟩, q1, hf⟩ := Option.bind_eq_some_iff.mp hf
  refine h.s m σ H δ S d1 S1 _ er sr q1 fun v m1 H1 e1 s1 r1 => ?_
  split at hf
  · rename_i i hk
    have hk : d1 = .int i := hk
    subst hk
    cases hf; cases r1
    exact ⟨_, rfl, q m1 H1 e1 s1⟩
  · cases hf⟩
def cutD {α : Type} (xs : List α) (lo hi : Option Int) : List α := (xs.drop (HT.sIx xs.length 0 lo)).take (HT.sIx xs.length xs.length hi - HT.sIx xs.length 0 lo)
theorem RpAll.cut {K : PySem.W.Frag} {m : M} {H : Hp} {vs : List V} {ds : List D} (r : RpAll K m H vs ds) (lo hi : Option Int) : RpAll K m H (cutV vs lo hi) (cutD ds lo hi) := by
  unfold cutV cutD
  rw [r.length]
  exact (r.drop _).take _
def dSl (d : D) (lo hi : Option Int) (S : List O) : Option D := match d with
  | .tup ds => some (.tup (cutD ds lo hi))
  | .str z => if z.length ≤ sizeLine then some (.str ⟨(cutD z.cps.toList lo hi).toArray⟩) else none
  | d => (seqL S d).bind fun ds => some (.lst (cutD ds lo hi))
def eSl (f : E) (lo hi : Pt) : E := fun δ S => (f δ S).bind fun p => (lo δ p.2).bind fun l => (hi δ l.2).bind fun h => (dSl p.1 l.1 h.1 h.2).bind fun d => some (d, h.2)
def rSlX (K : PySem.W.Frag) (rs : V → Option Int → Option Int → Hp → VK → Prop) : V → Option Int → Option Int → Hp → VK → Prop := fun x lo hi H Q => rSlL K x lo hi H Q ∨ rSlA K x lo hi H Q ∨ rs x lo hi H Q
end
end Cb
namespace Cb
open PySem L2

section
variable {X : Cx} {C : Addr} {pos : Pos} {a b c e : Expr} {es : List Expr} {ta tb tc te : TE} {tA : TA} {fa fb fc f : E} {g : A}
/-! slices -/
def dSlice (d : D) (lo hi : Option Int) (S : List O) : Option D := match d with
  | .tup ds => some (.tup (cutD ds lo hi))
  | .str z => if z.length ≤ sizeLine then some (.str (cutS z lo hi)) else none
  | d => (seqL S d).bind fun ds => some (.lst (cutD ds lo hi))
def eSlice (f : E) (lo hi : Pt) : E := fun δ S => (f δ S).bind fun p => (lo δ p.2).bind fun l => (hi δ l.2).bind fun h => (dSlice p.1 l.1 h.1 h.2).bind fun d => some (d, h.2)
def rSlAll (K : PySem.W.Frag) : V → Option Int → Option Int → Hp → VK → Prop := fun x lo hi H Q => rSlL K x lo hi H Q ∨ rSlA K x lo hi H Q ∨ rSlS x lo hi H Q
theorem sl_all : SlR X (rSlAll X.K) := SlR.or sl_list (SlR.or sl_tupA sl_str)
theorem cutD_whole {α : Type} {xs : List α} {lo hi : Option Int} (h : HT.sIx xs.length 0 lo = 0 ∧ HT.sIx xs.length xs.length hi = xs.length) : cutD xs lo hi = xs := by
  unfold cutD
  rw [h.1, h.2]
  simp
theorem s_slice {K : PySem.W.Frag} {m : M} {H : Hp} {x : V} {d0 d : D} {lo hi : Option Int} {S : List O} {Q : VK} (r1 : Rp K m H x d0) (sr : SR C K m H S) (h : dSlice d0 lo hi S = some d)
    (q : ∀ v m' H', Ev m H m' H' → SR C K m' H' S → Rp K m' H' v d → Q v H') : rSlAll K x lo hi H Q := by
  unfold dSlice at h
  split at h
  · cases h
    cases r1 with
    | tup h1 r =>
      refine .inr (.inl ⟨_, _, rfl, h1, fun e => ?_, fun _ p hp => ?_⟩)
      · rw [r.length] at e
        rw [cutD_whole e] at q
        exact q _ m H .refl sr (.tup h1 r)
      · exact q _ m _ (.lay hp) (sr.lay hp) (.tup (.of upd_same) ((r.cut lo hi).ev (.lay hp)))
  · split at h
    · rename_i hl
      cases h; cases r1
      exact .inr (.inr ⟨_, rfl, hl, q _ m H .refl sr (.str _)⟩)
    · cases h
  · obtain ⟨ds, h2, h3⟩ := Option.bind_eq_some_iff.mp h
    cases h3
    obtain ⟨a, xs, e, h4, h5⟩ := rp_seqL sr r1 h2
    subst e
    exact .inl ⟨_, _, rfl, h4, fun p hp => q _ m _ (.lay hp) (sr.lay hp) (.lst upd_same (sr.notin hp) ((h5.cut lo hi).ev (.lay hp)))⟩
theorem re_slice {lo hi : Option Expr} {tl th : TO} {fl fh : Pt} {p2 : Pos} (he : RE X C e te f) (hl : RP X C lo tl fl) (hh : RP X C hi th fh) : RE X C (.Subscript e (.Slice lo hi none p2) pos) (tSl (rSlAll X.K) te tl th) (eSlice f fl fh) :=
  ⟨pe_slice sl_all he.p hl.p hh.p, fun m σ H δ S d S' Q er sr hf q => by
    unfold eSlice at hf
    obtain ⟨⟨d1, S1⟩, q1, hf⟩ := Option.bind_eq_some_iff.mp hf
    obtain ⟨⟨l, S2⟩, q2, hf⟩ := Option.bind_eq_some_iff.mp hf
    obtain ⟨⟨h, S3⟩, q3, hf⟩ := Option.bind_eq_some_iff.mp hf
    obtain ⟨d4, q4, hf⟩ := Option.bind_eq_some_iff.mp hf
    cases hf
    refine he.s m σ H δ S d1 S1 _ er sr q1 fun v m1 H1 e1 s1 r1 => ?_
    refine hl.s m1 σ H1 δ S1 l S2 _ (er.ev e1) s1 q2 fun m2 H2 e2 s2 => ?_
    refine hh.s m2 σ H2 δ S2 h S3 _ (er.ev (e1.trans e2)) s2 q3 fun m3 H3 e3 s3 => ?_
    exact s_slice (r1.ev (e2.trans e3)) s3 q4 fun v m4 H4 e4 s4 r4 => q v m4 H4 (e1.trans (e2.trans (e3.trans e4))) s4 r4⟩
def lRev (f : E) : A := fun δ S => (f δ S).bind fun p => (seqL p.2 p.1).bind fun ds => some (ds.reverse, p.2)
theorem rl_rev {k : Nat} {p1 p2 p3 : Pos} (he : RE X C e te f) : RL X C (.Subscript e (.Slice none none (some (.UnaryOp .USub (.Constant (.int 1) k p1) p2)) p3) pos) (tRevL X.K te) (lRev f) :=
  ⟨pe_revL he.p, fun m σ H δ S d S' Q er sr hf q => by
    unfold lRev at hf
    obtain ⟨⟨d1, S1⟩, q1, hf⟩ := Option.bind_eq_some_iff.mp hf
    obtain ⟨ds, q2, hf⟩ := Option.bind_eq_some_iff.mp hf
    cases hf
    refine he.s m σ H δ S d1 S1 _ er sr q1 fun v m1 H1 e1 s1 r1 => ?_
    obtain ⟨a, xs, ee, h4, h5⟩ := rp_seqL s1 r1 q2
    subst ee
    exact ⟨_, _, rfl, h4, fun p hp => q p _ m1 _ (e1.trans (.lay hp)) (e1.free s1 hp) upd_same (s1.hideLay hp) (h5.reverse.hide hp (.lay hp))⟩⟩

/-! ### calls -/
abbrev Fn := List D → List O → Option (D × List O)
def spF (C : Addr) (K : PySem.W.Frag) (n : Nat) (F : Fn) : Sp := fun vs H Q _ => vs.length = n ∧ ∃ m S ds d S', RpAll K m H vs ds ∧ SR C K m H S ∧ F ds S = some (d, S') ∧
  ∀ v m' H', Ev m H m' H' → SR C K m' H' S' → Rp K m' H' v d → Q v H'
structure Cal (P : Program) (w : World) (K : PySem.W.Frag) (mg : Str → Option Value) (base : Heap) (C : Addr) (k : Nat) (x : Str) (n : Nat) (F : Fn) : Prop where
  ex : ∃ (f : Addr) (fd : FuncData) (ps : List Str), FnOk P w K mg base CX0 k f fd ps (spF C K n F) ∧ Binds K fd ps [] ∧ PySem.W.keepIn K (.ref f) = true ∧ mg x = some (.ref f)
def eCall (n : Nat) (F : Fn) (g : A) : E := fun δ S => (g δ S).bind fun p => if p.1.length = n then F p.1 p.2 else none
theorem s_call {K : PySem.W.Frag} {n : Nat} {F : Fn} {E0 : XK} (h : ASem C K tA g) : ESem C K (tCall (spF C K n F) [] E0 tA) (eCall n F g) := fun m σ H δ S d S' Q er sr hf q => by
  unfold eCall at hf
  obtain ⟨⟨ds, S1⟩, q1, hf⟩ := Option.bind_eq_some_iff.mp hf
  split at hf
  · rename_i hl
    refine h m σ H δ S ds S1 _ er sr q1 fun vs m1 H1 e1 s1 r1 => ?_
    rw [List.append_nil]
    exact ⟨by rw [r1.length]; exact hl, m1, S1, ds, d, S', r1, s1, hf, fun v m2 H2 e2 s2 r2 => q v m2 H2 (e1.trans e2) s2 r2⟩
  · cases hf
theorem re_call {k n : Nat} {x : Str} {F : Fn} {p : Pos} (cal : Cal X.prog X.w X.K X.mg X.base C k x n F) (hr : Room k X.A) (hg : Gl X x) (ha : RA X C (e :: es) tA g) (hdb : (x == ("__debug__" : Str)) = false := by decide)
    (he : starEach (e :: es) X.env = (false, eval e X.env) :: starEach es X.env := by rfl) (hpl : (backTo pos (starEach es X.env)).any (·.1) = false := by rfl) :
    RE X C (.Call (.Name x p) (e :: es) [] pos) (tCall (spF C X.K n F) [] E0 tA) (eCall n F g) := by
  obtain ⟨f, fd, ps, F', bd, kp, hm⟩ := cal.ex
  exact ⟨pe_call F' hr hg hm kp bd .nil pass0 ha.p hdb he hpl, s_call ha.s⟩
/-- a built-in's call, by values -/
abbrev Bi := List D → List O → Option D
def CSem (C : Addr) (K : PySem.W.Frag) (r : List V → Hp → VK → Prop) (g : Bi) : Prop := ∀ m H xs ds S d Q, RpAll K m H xs ds → SR C K m H S → g ds S = some d →
  (∀ v m' H', Ev m H m' H' → SR C K m' H' S → Rp K m' H' v d → Q v H') → r xs H Q
def eBi (k : Bi) (g : A) : E := fun δ S => (g δ S).bind fun p => (k p.1 p.2).bind fun d => some (d, p.2)
theorem s_bi {K : PySem.W.Frag} {r : List V → Hp → VK → Prop} {k : Bi} (hc : CSem C K r k) (h : ASem C K tA g) : ESem C K (tCB r tA) (eBi k g) := fun m σ H δ S d S' Q er sr hf q => by
  unfold eBi at hf
  obtain ⟨⟨ds, S1⟩, q1, hf⟩ := Option.bind_eq_some_iff.mp hf
  obtain ⟨d2, q2, hf⟩ := Option.bind_eq_some_iff.mp hf
  cases hf
  refine h m σ H δ S ds S1 _ er sr q1 fun vs m1 H1 e1 s1 r1 => ?_
  exact hc m1 H1 vs ds S1 d _ r1 s1 q2 fun v m2 H2 e2 s2 r2 => q v m2 H2 (e1.trans e2) s2 r2
theorem re_callB {id : String} {x : Str} {r : List V → Hp → VK → Prop} {k : Bi} {p : Pos} (hc : CallR X (.builtin id) r) (hs : CSem C X.K r k) (hg : Gl X x) (hm : X.mg x = none) (hv : bootBuiltins x = some (.builtin id)) (ha : RA X C (e :: es) tA g) (hn : x ≠ "__name__" := by decide) (hdb : (x == ("__debug__" : Str)) = false := by decide)
    (he : starEach (e :: es) X.env = (false, eval e X.env) :: starEach es X.env := by rfl) (hpl : (backTo pos (starEach es X.env)).any (·.1) = false := by rfl) :
    RE X C (.Call (.Name x p) (e :: es) [] pos) (tCB r tA) (eBi k g) := ⟨pe_callB hc hg hm hv ha.p hn hdb he hpl, s_bi hs ha.s⟩
theorem re_callTy {T : String} {x : Str} {r : List V → Hp → VK → Prop} {k : Bi} {p : Pos} (hc : CallR X (.type T) r) (hs : CSem C X.K r k) (hg : Gl X x) (hm : X.mg x = none) (hv : bootBuiltins x = some (.type T)) (ha : RA X C (e :: es) tA g) (hn : x ≠ "__name__" := by decide) (hdb : (x == ("__debug__" : Str)) = false := by decide)
    (he : starEach (e :: es) X.env = (false, eval e X.env) :: starEach es X.env := by rfl) (hpl : (backTo pos (starEach es X.env)).any (·.1) = false := by rfl) :
    RE X C (.Call (.Name x p) (e :: es) [] pos) (tCB r tA) (eBi k g) := ⟨pe_callTy hc hg hm hv ha.p hn hdb he hpl, s_bi hs ha.s⟩
/-- a built-in that hands back a new list -/
abbrev Bl := List D → List O → Option (List D)
def ClSem (C : Addr) (K : PySem.W.Frag) (r : List V → Hp → VK → Prop) (g : Bl) : Prop := ∀ m H xs ds S d Q, RpAll K m H xs ds → SR C K m H S → g ds S = some d →
  (∀ p ys, H p = none → RpAll K m H ys d → Q (.ref p) (upd H p (.lst ys))) → r xs H Q
def lBi (k : Bl) (g : A) : A := fun δ S => (g δ S).bind fun p => (k p.1 p.2).bind fun d => some (d, p.2)
theorem s_bl {K : PySem.W.Frag} {r : List V → Hp → VK → Prop} {k : Bl} (hc : ClSem C K r k) (h : ASem C K tA g) : LSem C K (tCB r tA) (lBi k g) := fun m σ H δ S d S' Q er sr hf q => by
  unfold lBi at hf
  obtain ⟨⟨ds, S1⟩, q1, hf⟩ := Option.bind_eq_some_iff.mp hf
  obtain ⟨d2, q2, hf⟩ := Option.bind_eq_some_iff.mp hf
  cases hf
  refine h m σ H δ S ds S1 _ er sr q1 fun vs m1 H1 e1 s1 r1 => ?_
  exact hc m1 H1 vs ds S1 _ _ r1 s1 q2 fun p ys hp r2 => q p ys m1 _ (e1.trans (.lay hp)) (e1.free s1 hp) upd_same (s1.hideLay hp) (r2.hide hp (.lay hp))
theorem rl_callB {id : String} {x : Str} {r : List V → Hp → VK → Prop} {k : Bl} {p : Pos} (hc : CallR X (.builtin id) r) (hs : ClSem C X.K r k) (hg : Gl X x) (hm : X.mg x = none) (hv : bootBuiltins x = some (.builtin id)) (ha : RA X C (e :: es) tA g) (hn : x ≠ "__name__" := by decide) (hdb : (x == ("__debug__" : Str)) = false := by decide)
    (he : starEach (e :: es) X.env = (false, eval e X.env) :: starEach es X.env := by rfl) (hpl : (backTo pos (starEach es X.env)).any (·.1) = false := by rfl) :
    RL X C (.Call (.Name x p) (e :: es) [] pos) (tCB r tA) (lBi k g) := ⟨pe_callB hc hg hm hv ha.p hn hdb he hpl, s_bl hs ha.s⟩
theorem rl_callTy {T : String} {x : Str} {r : List V → Hp → VK → Prop} {k : Bl} {p : Pos} (hc : CallR X (.type T) r) (hs : ClSem C X.K r k) (hg : Gl X x) (hm : X.mg x = none) (hv : bootBuiltins x = some (.type T)) (ha : RA X C (e :: es) tA g) (hn : x ≠ "__name__" := by decide) (hdb : (x == ("__debug__" : Str)) = false := by decide)
    (he : starEach (e :: es) X.env = (false, eval e X.env) :: starEach es X.env := by rfl) (hpl : (backTo pos (starEach es X.env)).any (·.1) = false := by rfl) :
    RL X C (.Call (.Name x p) (e :: es) [] pos) (tCB r tA) (lBi k g) := ⟨pe_callTy hc hg hm hv ha.p hn hdb he hpl, s_bl hs ha.s⟩

/-! len -/
def bLen : Bi := fun ds S => match ds with
  | [.tup xs] => some (.int xs.length)
  | [.str z] => if z.length ≤ sizeLine then some (.int z.length) else none
  | [d] => (seqL S d).bind fun xs => some (.int xs.length)
  | _ => none
def rLenX (K : PySem.W.Frag) : List V → Hp → VK → Prop := fun xs H Q => (∃ p ys, xs = [.ref p] ∧ (SqL K H p ys ∨ SqT K H p ys) ∧ Q (.int ys.length) H) ∨ ∃ z, xs = [.str z] ∧ z.length ≤ sizeLine ∧ Q (.int z.length) H
theorem call_lenX : CallR X (.builtin "len") (rLenX X.K) := call_len_seq.or call_len_str
theorem s_len {K : PySem.W.Frag} : CSem C K (rLenX K) bLen := fun m H xs ds S d Q r sr hf q => by
  unfold bLen at hf
  split at hf
  · cases hf
    cases r with
    | cons r1 rr =>
      cases rr
      cases r1 with
      | tup h1 r2 => exact .inl ⟨_, _, rfl, .inr h1, by rw [r2.length]; exact q _ m H .refl sr (.int _)⟩
  · split at hf
    · rename_i hl
      cases hf
      cases r with
      | cons r1 rr =>
        cases rr
        cases r1
        exact .inr ⟨_, rfl, hl, q _ m H .refl sr (.int _)⟩
    · cases hf
  · obtain ⟨ys, h1, h2⟩ := Option.bind_eq_some_iff.mp hf
    cases h2
    cases r with
    | cons r1 rr =>
      cases rr
      obtain ⟨a, zs, ee, h4, h5⟩ := rp_seqL sr r1 h1
      subst ee
      exact .inl ⟨_, _, rfl, .inl h4, by rw [h5.length]; exact q _ m H .refl sr (.int _)⟩
  · cases hf
/-! isinstance -/
def tyD (S : List O) : D → String
  | .non => "NoneType" | .bl _ => "bool" | .int _ => "int" | .str _ => "str" | .tup _ => "tuple" | .lst _ => "list" | .scr _ => "list" | .dic _ => "dict"
  | .ref n => match S[n]? with | some (.lst _) => "list" | some (.dic _) => "dict" | _ => "?"
  | .tun _ => "?" | .fn _ => "?"
def isD (T : String) (S : List O) (d : D) : Option Bool := if tyD S d = "?" then none else some (tyD S d == T || (T == "int" && tyD S d == "bool"))
def bIsi (T : String) : Bi := fun ds S => match ds with
  | [d] => (isD T S d).bind fun k => some (.bl k)
  | _ => none
theorem rp_ty {K : PySem.W.Frag} {m : M} {H : Hp} {S : List O} {v : V} {d : D} (s : SR C K m H S) (r : Rp K m H v d) (h : tyD S d ≠ "?") : TyX K H v (.type (tyD S d)) ∧ tyD S d ∈ ["NoneType", "bool", "int", "str", "tuple", "list", "dict"] := by
  cases r with
  | non => exact ⟨.base .non, by simp [tyD]⟩
  | bl b => exact ⟨.base (.bl b), by simp [tyD]⟩
  | int b => exact ⟨.base (.int b), by simp [tyD]⟩
  | str b => exact ⟨.base (.str b), by simp [tyD]⟩
  | tup h1 q =>
    refine ⟨?_, by simp [tyD]⟩
    rcases h1 with (h1 | ⟨o, h1⟩) | ⟨o, its, n, h1, h2, _⟩
    · exact .base (.tup h1)
    · exact .fTuple h1
    · exact .kTuple h1 h2
  | lst h1 n q => exact ⟨.base (.lst h1), by simp [tyD]⟩
  | scr h1 =>
    refine ⟨?_, by simp [tyD]⟩
    rcases h1 with ⟨o, h1⟩ | ⟨o, its, n, h1, h2, _⟩
    · exact .base (.frz h1)
    · exact .kList h1 h2
  | dic h1 n k q => exact ⟨.base (.dK h1), by simp [tyD]⟩
  | tun h1 h2 h3 q => simp [tyD] at h
  | fn h1 => simp [tyD] at h
  | @ref a n hn =>
    cases hs : S[n]? with
    | none => simp [tyD, hs] at h
    | some ob =>
      cases ob with
      | lst ds =>
        obtain ⟨vs, h1, h2⟩ := s.obj _ _ _ hn hs
        simp only [tyD, hs]
        exact ⟨.base (.lst h1), by simp⟩
      | dic ds =>
        obtain ⟨vs, h1, h2⟩ := s.obj _ _ _ hn hs
        simp only [tyD, hs]
        exact ⟨.base (.dK h1), by simp⟩
      | ins ds => simp [tyD, hs] at h
theorem kit_all : ∀ T ∈ ["int", "bool", "str", "tuple", "list"], ∀ s ∈ ["NoneType", "bool", "int", "str", "tuple", "list", "dict"], kitB s T = some (s == T || (T == "int" && s == "bool")) := by decide +kernel
theorem s_isi {K : PySem.W.Frag} {T : String} (hT : T ∈ ["int", "bool", "str", "tuple", "list"]) : CSem C K (fun xs H Q => ∃ x, xs = [x] ∧ rIsi K [x, .ty T] H Q) (bIsi T) := fun m H xs ds S d Q r sr hf q => by
  unfold bIsi at hf
  split at hf
  · rename_i d0
    obtain ⟨k, h1, h2⟩ := Option.bind_eq_some_iff.mp hf
    cases h2
    unfold isD at h1
    split at h1
    · cases h1
    · rename_i hne
      cases h1
      cases r with
      | cons r1 rr =>
        cases rr
        obtain ⟨t1, t2⟩ := rp_ty sr r1 hne
        exact ⟨_, rfl, _, _, _, _, _, rfl, .ty T, t1, kit_ty (kit_all T hT _ t2), q _ m H .refl sr (.bl _)⟩
  · cases hf
def eIsi (T : String) (f : E) : E := fun δ S => (f δ S).bind fun p => (isD T p.2 p.1).bind fun k => some (.bl k, p.2)
theorem re_isi {T : String} {x : Str} {p p' : Pos} (hT : T ∈ ["int", "bool", "str", "tuple", "list"]) (hg : Gl X "isinstance") (hm : X.mg "isinstance" = none) (hg2 : Gl X x) (hm2 : X.mg x = none) (hv2 : bootBuiltins x = some (.type T)) (ha : RE X C a ta f) (hn2 : x ≠ "__name__" := by decide) (hdb : (x == ("__debug__" : Str)) = false := by decide)
    (he : starEach [a, .Name x p'] X.env = (false, eval a X.env) :: starEach [.Name x p'] X.env := by rfl) (he2 : starEach [.Name x p'] X.env = (false, eval (.Name x p') X.env) :: starEach [] X.env := by rfl) (hpl : (backTo pos (starEach [.Name x p'] X.env)).any (·.1) = false := by rfl) :
    RE X C (.Call (.Name "isinstance" p) [a, .Name x p'] [] pos) (tCB (rIsi X.K) (tCons ta (tCons (tC (.ty T)) tNil))) (eIsi T f) :=
  ⟨pe_callB call_isi hg hm (by decide +kernel) (pa_cons ha.p (pa_cons (pe_bltn hg2 hm2 hv2 rfl hn2 hdb) pa_nil he2) he) (by decide) (by decide) he hpl, fun m σ H δ S d S' Q er sr hf q => by
    unfold eIsi at hf
    obtain ⟨⟨d1, S1⟩, q1, hf⟩ := Option.bind_eq_some_iff.mp hf
    obtain ⟨k, q2, hf⟩ := Option.bind_eq_some_iff.mp hf
    cases hf
    refine ha.s m σ H δ S d1 S1 _ er sr q1 fun v m1 H1 e1 s1 r1 => ?_
    obtain ⟨x, ex, h⟩ := s_isi hT m1 H1 [v] [d1] S1 (.bl k) Q (.cons r1 .nil) s1 (by simp [bIsi, q2]) fun v m2 H2 e2 s2 r2 => q v m2 H2 (e1.trans e2) s2 r2
    cases ex
    exact h⟩
/-! tuple(x), list(x), int(x), str(n), min(a, b), sum, all -/
def bTup : Bi := fun ds S => match ds with
  | [.tup xs] => some (.tup xs)
  | [d] => (seqL S d).bind fun xs => some (.tup xs)
  | _ => none
def rTupX (K : PySem.W.Frag) : List V → Hp → VK → Prop := fun xs H Q => ∃ p ys, xs = [.ref p] ∧ ((SqL K H p ys ∧ ∀ l, H l = none → Q (.ref l) (upd H l (.tup ys))) ∨ (SqT K H p ys ∧ Q (.ref p) H))
theorem s_tuple {K : PySem.W.Frag} : CSem C K (rTupX K) bTup := fun m H xs ds S d Q r sr hf q => by
  unfold bTup at hf
  split at hf
  · cases hf
    cases r with
    | cons r1 rr =>
      cases rr
      cases r1 with
      | tup h1 r2 => exact ⟨_, _, rfl, .inr ⟨h1, q _ m H .refl sr (.tup h1 r2)⟩⟩
  · obtain ⟨ys, h1, h2⟩ := Option.bind_eq_some_iff.mp hf
    cases h2
    cases r with
    | cons r1 rr =>
      cases rr
      obtain ⟨a, zs, ee, h4, h5⟩ := rp_seqL sr r1 h1
      subst ee
      exact ⟨_, _, rfl, .inl ⟨h4, fun p hp => q _ m _ (.lay hp) (sr.lay hp) (.tup (.of upd_same) (h5.ev (.lay hp)))⟩⟩
  · cases hf
def blList : Bl := fun ds S => match ds with
  | [.tup xs] => some xs
  | [d] => seqL S d
  | _ => none
def rListX (K : PySem.W.Frag) : List V → Hp → VK → Prop := fun xs H Q => ∃ p ys, xs = [.ref p] ∧ (SqL K H p ys ∨ SqT K H p ys) ∧ ∀ l, H l = none → Q (.ref l) (upd H l (.lst ys))
theorem s_list {K : PySem.W.Frag} : ClSem C K (rListX K) blList := fun m H xs ds S d Q r sr hf q => by
  unfold blList at hf
  split at hf
  · cases hf
    cases r with
    | cons r1 rr =>
      cases rr
      cases r1 with
      | tup h1 r2 => exact ⟨_, _, rfl, .inr h1, fun p hp => q p _ hp r2⟩
  · cases r with
    | cons r1 rr =>
      cases rr
      obtain ⟨a, zs, ee, h4, h5⟩ := rp_seqL sr r1 hf
      subst ee
      exact ⟨_, _, rfl, .inl h4, fun p hp => q p _ hp h5⟩
  · cases hf
/-- list(d) of a dict: its keys -/
def kD : Key → D
  | .inl i => .int i
  | .inr x => .str x
def dicS (S : List O) : D → Option (List (Key × D))
  | .dic ks => some ks
  | .ref n => match S[n]? with | some (.dic ks) => some ks | _ => none
  | _ => none
theorem rp_dicS {K : PySem.W.Frag} {m : M} {H : Hp} {S : List O} {v : V} {d : D} {ks : List (Key × D)} (s : SR C K m H S) (r : Rp K m H v d) (h : dicS S d = some ks) :
    ∃ a kvs, v = .ref a ∧ H a = some (.dK kvs) ∧ kvs.map (·.1) = ks.map (·.1) ∧ RpAll K m H (kvs.map (·.2)) (ks.map (·.2)) := by
  cases r with
  | dic h1 n k q => cases h; exact ⟨_, _, rfl, h1, k, q⟩
  | @ref a n hn =>
    have h : (match S[n]? with | some (O.dic ks) => some ks | _ => none) = some ks := h
    split at h
    · rename_i xs hs
      cases h
      obtain ⟨vs, h1, h2, h3⟩ := s.obj _ _ _ hn hs
      exact ⟨_, _, rfl, h1, h2, h3⟩
    · cases h
  | _ => cases h
def blListD : Bl := fun ds S => match ds with
  | [d] => (dicS S d).bind fun ks => some (ks.map fun k => kD k.1)
  | _ => none
theorem keys_rp {K : PySem.W.Frag} {m : M} {H : Hp} : ∀ {kvs : List (Key × V)} {ks : List (Key × D)}, kvs.map (·.1) = ks.map (·.1) → RpAll K m H (kvs.map fun kv => kV kv.1) (ks.map fun k => kD k.1)
  | [], [], _ => .nil
  | [], _ :: _, h => by simp at h
  | _ :: _, [], h => by simp at h
  | (k, v) :: kvs, (k', d) :: ks, h => by
    simp only [List.map_cons, List.cons.injEq] at h
    obtain ⟨h1, h2⟩ := h
    have h1 : k = k' := h1
    subst h1
    refine .cons ?_ (keys_rp h2)
    cases k
    · exact .int _
    · exact .str _
theorem s_listD {K : PySem.W.Frag} : ClSem C K rListD blListD := fun m H xs ds S d Q r sr hf q => by
  unfold blListD at hf
  split at hf
  · obtain ⟨ks, h1, h2⟩ := Option.bind_eq_some_iff.mp hf
    cases h2
    cases r with
    | cons r1 rr =>
      cases rr
      obtain ⟨a, kvs, ee, h4, h5, h6⟩ := rp_dicS sr r1 h1
      subst ee
      exact ⟨_, _, rfl, h4, fun p hp => q p _ hp (keys_rp h5)⟩
  · cases hf
def bInt : Bi := fun ds _ => match ds with
  | [.int i] => some (.int i)
  | [.bl k] => some (.int (if k then 1 else 0))
  | _ => none
theorem s_int {K : PySem.W.Frag} : CSem C K (fun xs H Q => (∃ i, xs = [.int i] ∧ Q (.int i) H) ∨ ∃ k, xs = [.bl k] ∧ Q (.int (if k then 1 else 0)) H) bInt := fun m H xs ds S d Q r sr hf q => by
  unfold bInt at hf
  split at hf
  · cases hf
    cases r with
    | cons r1 rr => cases rr; cases r1; exact .inl ⟨_, rfl, q _ m H .refl sr (.int _)⟩
  · cases hf
    cases r with
    | cons r1 rr => cases rr; cases r1; exact .inr ⟨_, rfl, q _ m H .refl sr (.int _)⟩
  · cases hf
def bStrI : Bi := fun ds _ => match ds with
  | [.int i] => if i.natAbs.log2 < 1920 then some (.str (toString i)) else none
  | _ => none
theorem s_strI {K : PySem.W.Frag} : CSem C K (fun xs H Q => ∃ i, xs = [.int i] ∧ i.natAbs.log2 < 1920 ∧ Q (.str (toString i)) H) bStrI := fun m H xs ds S d Q r sr hf q => by
  unfold bStrI at hf
  split at hf
  · split at hf
    · rename_i hl
      cases hf
      cases r with
      | cons r1 rr => cases rr; cases r1; exact ⟨_, rfl, hl, q _ m H .refl sr (.str _)⟩
    · cases hf
  · cases hf
def bMin : Bi := fun ds _ => match ds with
  | [.int i, .int j] => some (.int (if j < i then j else i))
  | _ => none
theorem s_min {K : PySem.W.Frag} : CSem C K (fun xs H Q => ∃ i j, xs = [.int i, .int j] ∧ Q (.int (if j < i then j else i)) H) bMin := fun m H xs ds S d Q r sr hf q => by
  unfold bMin at hf
  split at hf
  · cases hf
    cases r with
    | cons r1 rr => cases rr with | cons r2 rr => cases rr; cases r1; cases r2; exact ⟨_, _, rfl, q _ m H .refl sr (.int _)⟩
  · cases hf
end
end Cb
namespace Cb
open PySem L2

section
variable {X : Cx} {C : Addr} {pos : Pos} {a b c e tg : Expr} {es : List Expr} {ta tb tc te : TE} {tA : TA} {fa fb fc f : E} {g : A}
/-! ### targets -/
abbrev G := D → Sl → Option Sl
def GSem (C : Addr) (K : PySem.W.Frag) (t : TG) (g : G) (vs : List Nat) : Prop := ∀ m σ H δ S x d δ' Q, ER K m H σ δ → SR C K m H S → Rp K m H x d → g d δ = some δ' →
  (∀ σ', ER K m H σ' δ' → wipe σ' vs = wipe σ vs → Q σ' H) → t x σ H Q
structure RG (X : Cx) (C : Addr) (e : Expr) (t : TG) (g : G) (vs : List Nat) : Prop where
  p : PG X e t
  s : GSem C X.K t g vs
theorem wipe_set_out {σ : L2.St} {i : Nat} {o : Option V} : ∀ {vs : List Nat}, i ∈ vs → wipe (σ.set i o) vs = wipe σ vs
  | v :: vs, h => by
    unfold wipe
    by_cases hv : i ∈ vs
    · rw [wipe_set_out hv]
    · have e : i = v := by
        rcases List.mem_cons.mp h with q | q
        · exact q
        · exact absurd q hv
      subst e
      clear h
      have aux : ∀ (vs : List Nat) (σ : L2.St), i ∉ vs → wipe (σ.set i o) vs = (wipe σ vs).set i o := by
        intro vs
        induction vs with
        | nil => intro σ _; rfl
        | cons w ws ih =>
          intro σ hw
          unfold wipe
          rw [ih σ (fun z => hw (List.mem_cons_of_mem _ z)), List.set_comm _ _ (fun z => hw (by rw [z]; exact List.mem_cons_self))]
      rw [aux vs σ hv, List.set_set]
theorem wipe_wipe {σ : L2.St} : ∀ {vs ws : List Nat}, (∀ v ∈ ws, v ∈ vs) → wipe (wipe σ ws) vs = wipe σ vs
  | vs, [], _ => rfl
  | vs, w :: ws, h => by
    show wipe ((wipe σ ws).set w none) vs = _
    rw [wipe_set_out (h w List.mem_cons_self), wipe_wipe fun v hv => h v (List.mem_cons_of_mem _ hv)]
def wipeD (δ : Sl) : List Nat → Sl
  | [] => δ
  | v :: vs => (wipeD δ vs).set v none
theorem ER.wipe {K : PySem.W.Frag} {m : M} {H : Hp} {σ : L2.St} {δ : Sl} (h : ER K m H σ δ) : ∀ vs : List Nat, ER K m H (L2.wipe σ vs) (wipeD δ vs)
  | [] => h
  | v :: vs => (ER.wipe h vs).unset v
def gdName (i : Nat) : G := fun d δ => some (δ.set i (some d))
theorem rg_name {x : Str} {vs : List Nat} (i : Nat) (hv : i ∈ vs) (hN : X.N.Nodup) (hi : X.N[i]? = some x := by rfl) (hx : Loc X.env.scope x := by first | exact Or.inl rfl | exact Or.inr rfl) (hf : X.fn x = true ∨ X.env.scope.names.lookup x = some .local := by first | exact .inl rfl | exact .inr rfl | assumption) : RG X C (.Name x pos) (gName i) (gdName i) vs :=
  ⟨pg_name hN hi hx hf, fun m σ H δ S x d δ' Q er sr r h q => by
    cases h
    exact q _ (er.set i r) (wipe_set_out hv)⟩
abbrev Gs := List D → Sl → Option Sl
def GsSem (C : Addr) (K : PySem.W.Frag) (t : TGs) (g : Gs) (vs : List Nat) : Prop := ∀ m σ H δ S x d δ' Q, ER K m H σ δ → SR C K m H S → RpAll K m H x d → g d δ = some δ' →
  (∀ σ', ER K m H σ' δ' → wipe σ' vs = wipe σ vs → Q σ' H) → t x σ H Q
structure RGs (X : Cx) (C : Addr) (e : List Expr) (t : TGs) (g : Gs) (vs : List Nat) : Prop where
  p : PGs X e t
  s : GsSem C X.K t g vs
def gsNil : Gs := fun ds δ => match ds with | [] => some δ | _ => none
def gsCons (g : G) (gs : Gs) : Gs := fun ds δ => match ds with | d :: ds => (g d δ).bind fun δ1 => gs ds δ1 | _ => none
theorem rgs_nil {vs : List Nat} : RGs X C [] gNil gsNil vs := ⟨pgs_nil, fun m σ H δ S x d δ' Q er sr r h q => by
  unfold gsNil at h
  split at h
  · cases h; cases r; exact ⟨rfl, q _ er rfl⟩
  · cases h⟩
theorem rgs_cons {vs : List Nat} {t : TG} {ts : TGs} {g : G} {gs : Gs} (h1 : RG X C e t g vs) (h2 : RGs X C es ts gs vs) (hs : (assignEach (e :: es) X.env).map (·.2) = assign e X.env :: (assignEach es X.env).map (·.2) := by rfl) : RGs X C (e :: es) (gCons t ts) (gsCons g gs) vs := ⟨pgs_cons h1.p h2.p hs, fun m σ H δ S x d δ' Q er sr r h q => by
  unfold gsCons at h
  split at h
  · obtain ⟨δ1, q1, q2⟩ := Option.bind_eq_some_iff.mp h
    cases r with
    | cons r1 r2 =>
      refine ⟨_, _, rfl, h1.s m σ H δ S _ _ δ1 _ er sr r1 q1 fun σ1 er1 w1 => ?_⟩
      exact h2.s m σ1 H δ1 S _ _ δ' _ er1 sr r2 q2 fun σ2 er2 w2 => q σ2 er2 (w2.trans w1)
  · cases h⟩
def gdTup (n : Nat) (gs : Gs) : G := fun d δ => match d with | .tup ds => if ds.length = n then gs ds δ else none | _ => none
theorem rg_tup {vs : List Nat} {k n : Nat} {ts : TGs} {gs : Gs} (hc : X.calm = true) (h : RGs X C es ts gs vs) (hn : (assignEach es X.env).length = n := by rfl) (hst : (assignEach es X.env).findIdx? (·.1) = none := by rfl) : RG X C (.Tuple es k pos) (gTup X.K n ts) (gdTup n gs) vs :=
  ⟨pg_tup hc h.p hn hst, fun m σ H δ S x d δ' Q er sr r hh q => by
    unfold gdTup at hh
    split at hh
    · split at hh
      · rename_i hl
        cases r with
        | tup h1 r1 => exact ⟨_, _, rfl, h1, by rw [r1.length, hl], h.s m σ H δ S _ _ δ' _ er sr r1 hh q⟩
      · cases hh
    · cases hh⟩

/-! ### what is walked -/
/-- as Ev, and more may be hidden -/
structure EvH (m : M) (H : Hp) (m' : M) (H' : Hp) : Prop where
  ev : Ev m H ⟨m'.l, m.b⟩ H'
  hid : ∀ a, a ∈ m'.b → a ∈ m.b ∨ H a = none
theorem EvH.of {m m' : M} {H H' : Hp} (e : Ev m H m' H') : EvH m H m' H' := by
  obtain ⟨l, b⟩ := m'
  have hb : b = m.b := e.hid
  subst hb
  exact ⟨e, fun a h => .inl h⟩
theorem EvH.notin {m m' : M} {H H' : Hp} (e : EvH m H m' H') {a : Addr} {o : HO} (h : H a = some o) (n : ¬ m.has a) : ¬ m'.has a := fun z => by
  rcases z with z | z
  · exact e.ev.notin h n (.inl z)
  · rcases e.hid a z with q | q
    · exact n (.inr q)
    · rw [h] at q; cases q
mutual
theorem Rp.evH {K : PySem.W.Frag} {m m' : M} {H H' : Hp} (e : EvH m H m' H') : ∀ {v : V} {d : D}, Rp K m H v d → Rp K m' H' v d
  | _, _, .non => .non
  | _, _, .bl b => .bl b
  | _, _, .int i => .int i
  | _, _, .str x => .str x
  | _, _, .tup h r => .tup (e.ev.sqT h) (RpAll.evH e r)
  | _, _, .lst h n r => .lst (e.ev.keep _ _ h fun z => n (.inl z)) (e.notin h n) (RpAll.evH e r)
  | _, _, .scr h => .scr (e.ev.sqF h)
  | _, _, .dic h n k r => .dic (e.ev.keep _ _ h fun z => n (.inl z)) (e.notin h n) k (RpAll.evH e r)
  | _, _, .ref h => .ref (e.ev.at h)
  | _, _, .tun h h1 h2 r => .tun (e.ev.frz _ _ _ h) h1 h2 (RpAll.evH e r)
  | _, _, .fn h => .fn h
theorem RpAll.evH {K : PySem.W.Frag} {m m' : M} {H H' : Hp} (e : EvH m H m' H') : ∀ {vs : List V} {ds : List D}, RpAll K m H vs ds → RpAll K m' H' vs ds
  | _, _, .nil => .nil
  | _, _, .cons r rs => .cons (Rp.evH e r) (RpAll.evH e rs)
end
mutual
/-- a hidden list grows: nothing else sees it -/
theorem Rp.over {K : PySem.W.Frag} {m : M} {H : Hp} {p : Addr} {zs : List V} {o : HO} (hp : p ∈ m.b) (hl : H p = some (.lst zs)) : ∀ {v : V} {d : D}, Rp K m H v d → Rp K m (upd H p o) v d
  | _, _, .non => .non
  | _, _, .bl b => .bl b
  | _, _, .int i => .int i
  | _, _, .str x => .str x
  | _, _, .tup h r => .tup (by
      rcases h with (h | ⟨u, h⟩) | h
      · exact .inl (.inl (by rw [upd_ne (fun e => by subst e; rw [h] at hl; cases hl)]; exact h))
      · exact .inl (.inr ⟨u, by rw [upd_ne (fun e => by subst e; rw [h] at hl; cases hl)]; exact h⟩)
      · exact .inr h) (RpAll.over hp hl r)
  | _, _, .lst h n r => .lst (by rw [upd_ne (fun e => by subst e; exact n (.inr hp))]; exact h) n (RpAll.over hp hl r)
  | _, _, .scr h => .scr (by
      rcases h with ⟨u, h⟩ | h
      · exact .inl ⟨u, by rw [upd_ne (fun e => by subst e; rw [h] at hl; cases hl)]; exact h⟩
      · exact .inr h)
  | _, _, .dic h n k r => .dic (by rw [upd_ne (fun e => by subst e; exact n (.inr hp))]; exact h) n k (RpAll.over hp hl r)
  | _, _, .ref h => .ref h
  | _, _, .tun h h1 h2 r => .tun (by rw [upd_ne (fun e => by subst e; rw [h] at hl; cases hl)]; exact h) h1 h2 (RpAll.over hp hl r)
  | _, _, .fn h => .fn h
theorem RpAll.over {K : PySem.W.Frag} {m : M} {H : Hp} {p : Addr} {zs : List V} {o : HO} (hp : p ∈ m.b) (hl : H p = some (.lst zs)) : ∀ {vs : List V} {ds : List D}, RpAll K m H vs ds → RpAll K m (upd H p o) vs ds
  | _, _, .nil => .nil
  | _, _, .cons r rs => .cons (Rp.over hp hl r) (RpAll.over hp hl rs)
end
theorem SR.over {K : PySem.W.Frag} {m : M} {H : Hp} {S : List O} {p : Addr} {zs : List V} {o : HO} (s : SR C K m H S) (hp : p ∈ m.b) (hl : H p = some (.lst zs)) : SR C K m (upd H p o) S :=
  ⟨s.nd, s.len, fun n a ob h1 h2 => (s.obj n a ob h1 h2).mp (upd_ne (fun e => by subst e; exact s.apt a hp (List.mem_of_getElem? h1))) (RpAll.over hp hl), fun a ha => by
    by_cases e : a = p
    · rw [e, upd_same]; exact fun z => nomatch z
    · rw [upd_ne e]; exact s.hid a ha, s.apt⟩
theorem Ev.over {m m' : M} {H H' : Hp} {p : Addr} {o : HO} (e : Ev m H m' H') (hp : H p = none) : Ev m H m' (upd H' p o) :=
  ⟨e.pre, e.hid, e.new, fun a u h n => by rw [upd_ne (ne_of_none h hp)]; exact e.keep a u h n, fun a u h => by rw [upd_ne (ne_of_none h hp)]; exact e.tup a u h, fun a u v h => by rw [upd_ne (ne_of_none h hp)]; exact e.frz a u v h⟩
theorem EvH.keeps {m m' : M} {H H' : Hp} (e : EvH m H m' H') {a : Addr} {o : HO} (h : H a = some o) (n : a ∉ m.l) : H' a = some o := e.ev.keep a o h n
def Yld (C : Addr) (K : PySem.W.Frag) (J : It) (m0 : M) (H0 : Hp) (items : List D) : Prop := ∀ m H S, EvH m0 H0 m H → SR C K m H S →
  (∀ i, i < items.length → J.go i H) ∧ J.stop items.length H ∧ ∀ (i : Nat) d x H', items[i]? = some d → J.yld i H x H' → Ev m H m H' ∧ SR C K m H' S ∧ Rp K m H' x d
def ISem (C : Addr) (K : PySem.W.Frag) (wi : TI) (f : A) : Prop := ∀ m σ H δ S items S' R, ER K m H σ δ → SR C K m H S → f δ S = some (items, S') →
  (∀ J m' H', Ev m H m' H' → SR C K m' H' S' → Yld C K J m' H' items → R J H') → wi σ H R
structure RI (X : Cx) (C : Addr) (tg it : Expr) (wi : TI) (f : A) : Prop where
  p : PI X tg it wi
  s : ISem C X.K wi f
/-- a list that never changes -/
def seqP : D → Option (List D)
  | .lst xs => some xs
  | .scr ns => some (ns.map .int)
  | _ => none
theorem rp_seqP {K : PySem.W.Frag} {m : M} {H : Hp} {v : V} {d : D} {ds : List D} (r : Rp K m H v d) (h : seqP d = some ds) : ∃ a xs, v = .ref a ∧ (∀ m' H', EvH m H m' H' → SqL K H' a xs) ∧ RpAll K m H xs ds := by
  cases r with
  | lst h1 n r => cases h; exact ⟨_, _, rfl, fun m' H' e => .of (e.keeps h1 fun z => n (.inl z)), r⟩
  | scr h1 => cases h; exact ⟨_, _, rfl, fun m' H' e => (e.ev.sqF h1).sq, .ints _⟩
  | _ => cases h
def iSeq (f : E) : A := fun δ S => (f δ S).bind fun p => (seqP p.1).bind fun ds => some (ds, p.2)
theorem lt_get {α : Type} {l : List α} {i : Nat} (h : i < l.length) : ∃ x, l[i]? = some x := ⟨l[i], List.getElem?_eq_getElem h⟩
theorem ri_list (he : RE X C e te f) : RI X C tg e (iList X.K te) (iSeq f) := ⟨pi_list he.p, fun m σ H δ S items S' R er sr hf q => by
  unfold iSeq at hf
  obtain ⟨⟨d1, S1⟩, q1, hf⟩ := Option.bind_eq_some_iff.mp hf
  obtain ⟨ds, q2, hf⟩ := Option.bind_eq_some_iff.mp hf
  cases hf
  refine he.s m σ H δ S d1 S1 _ er sr q1 fun v m1 H1 e1 s1 r1 => ?_
  obtain ⟨a, xs, ee, h4, h5⟩ := rp_seqP r1 q2
  subst ee
  refine ⟨a, rfl, ⟨xs, h4 _ _ (.of .refl)⟩, q _ m1 H1 e1 s1 fun m2 H2 S2 e2 s2 => ?_⟩
  have hl := h5.length
  refine ⟨fun i hi => ?_, ⟨xs, h4 _ _ e2, by omega⟩, fun i d x H' hd y => ?_⟩
  · obtain ⟨x, hx⟩ := lt_get (l := xs) (i := i) (by omega)
    exact ⟨xs, x, h4 _ _ e2, hx⟩
  · obtain ⟨ey, y2⟩ := y
    subst ey
    obtain ⟨v, hv, rv⟩ := h5.get hd
    have := y2 xs (h4 _ _ e2)
    rw [hv] at this
    cases this
    exact ⟨.refl, s2, rv.evH e2⟩⟩
def iTupD (f : E) : A := fun δ S => (f δ S).bind fun p => match p.1 with | .tup ds => some (ds, p.2) | _ => none
theorem ri_tup (he : RE X C e te f) : RI X C tg e (iTup X.K te) (iTupD f) := ⟨pi_tup he.p, fun m σ H δ S items S' R er sr hf q => by
  unfold iTupD at hf
  obtain ⟨⟨d1, S1⟩, q1, hf⟩ := Option.bind_eq_some_iff.mp hf
  split at hf
  · rename_i ds hk
    have hk : d1 = .tup ds := hk
    subst hk
    cases hf
    refine he.s m σ H δ S _ S1 _ er sr q1 fun v m1 H1 e1 s1 r1 => ?_
    cases r1 with
    | @tup a xs _ h4 h5 =>
      refine ⟨a, rfl, ⟨xs, h4⟩, q _ m1 H1 e1 s1 fun m2 H2 S2 e2 s2 => ?_⟩
      have hl := h5.length
      refine ⟨fun i hi => ?_, ⟨xs, e2.ev.sqT h4, by omega⟩, fun i d x H' hd y => ?_⟩
      · obtain ⟨x, hx⟩ := lt_get (l := xs) (i := i) (by omega)
        exact ⟨xs, x, e2.ev.sqT h4, hx⟩
      · obtain ⟨ey, y2⟩ := y
        subst ey
        obtain ⟨v, hv, rv⟩ := h5.get hd
        have := y2 xs (e2.ev.sqT h4)
        rw [hv] at this
        cases this
        exact ⟨.refl, s2, rv.evH e2⟩
  · cases hf⟩
def iStrD (f : E) : A := fun δ S => (f δ S).bind fun p => match p.1 with | .str z => some (z.cps.toList.map fun c => .str ⟨#[c]⟩, p.2) | _ => none
theorem ri_str (he : RE X C e te f) : RI X C tg e (iStr te) (iStrD f) := ⟨pi_str he.p, fun m σ H δ S items S' R er sr hf q => by
  unfold iStrD at hf
  obtain ⟨⟨d1, S1⟩, q1, hf⟩ := Option.bind_eq_some_iff.mp hf
  split at hf
  · rename_i z hk
    have hk : d1 = .str z := hk
    subst hk
    cases hf
    refine he.s m σ H δ S _ S1 _ er sr q1 fun v m1 H1 e1 s1 r1 => ?_
    cases r1
    refine ⟨z, rfl, q _ m1 H1 e1 s1 fun m2 H2 S2 e2 s2 => ⟨fun i hi => ?_, ?_, fun i d x H' hd y => ?_⟩⟩
    · show i < z.cps.size
      simpa using hi
    · show z.cps.size ≤ _
      simp
    · obtain ⟨ey, c, hc, ex⟩ := y
      subst ey; subst ex
      have hc' : z.cps.toList[i]? = some c := by rw [Array.getElem?_toList]; exact hc
      rw [List.getElem?_map, hc'] at hd
      cases hd
      exact ⟨.refl, s2, .str _⟩
  · cases hf⟩
def rangeD (lo hi : Int) : List D := (List.range (hi - lo).toNat).map fun i => D.int (lo + (i : Nat))
def iRange1 (g : A) : A := fun δ S => (g δ S).bind fun p => match p.1 with
  | [.int j] => if -(2 ^ 62) ≤ j ∧ j < 2 ^ 62 then some (rangeD 0 j, p.2) else none
  | _ => none
def iRange2 (g : A) : A := fun δ S => (g δ S).bind fun p => match p.1 with
  | [.int i, .int j] => if -(2 ^ 62) ≤ i ∧ i < 2 ^ 62 ∧ -(2 ^ 62) ≤ j ∧ j < 2 ^ 62 then some (rangeD i j, p.2) else none
  | _ => none
theorem yld_range {K : PySem.W.Frag} {m : M} {H : Hp} (lo hi : Int) : Yld C K (Itr lo (hi - lo).toNat) m H (rangeD lo hi) := fun m2 H2 S2 e2 s2 => by
  have hl : (rangeD lo hi).length = (hi - lo).toNat := by simp [rangeD]
  refine ⟨fun i h => ?_, ?_, fun i d x H' hd y => ?_⟩
  · show i < (hi - lo).toNat
    omega
  · show (hi - lo).toNat ≤ _
    omega
  · obtain ⟨ey, ex⟩ := y
    subst ey; subst ex
    have hi' : i < (hi - lo).toNat := by
      have := (List.getElem?_eq_some_iff.mp hd).1
      omega
    unfold rangeD at hd
    rw [List.getElem?_map, List.getElem?_range hi'] at hd
    cases hd
    exact ⟨.refl, s2, .int _⟩
theorem ri_range1 {p : Pos} (hg : Gl X "range") (hm : X.mg "range" = none) (ha : RA X C [a] tA g) (hs : starEach [a] X.env = [(false, eval a X.env)] := by rfl) : RI X C tg (.Call (.Name "range" p) [a] [] pos) (iRng1 tA) (iRange1 g) := ⟨pi_range1 hg hm ha.p hs, fun m σ H δ S items S' R er sr hf q => by
  unfold iRange1 at hf
  obtain ⟨⟨ds, S1⟩, q1, hf⟩ := Option.bind_eq_some_iff.mp hf
  refine ha.s m σ H δ S _ S1 _ er sr q1 fun v m1 H1 e1 s1 r1 => ?_
  split at hf
  · rename_i j hk
    have hk : ds = [.int j] := hk
    subst hk
    split at hf
    · rename_i hb
      cases hf
      cases r1 with
      | cons r1 rr =>
        cases rr; cases r1
        have z := yld_range (C := C) (K := X.K) (m := m1) (H := H1) 0 j
        rw [Int.sub_zero] at z
        exact ⟨j, rfl, hb.1, hb.2, q _ m1 H1 e1 s1 z⟩
    · cases hf
  · cases hf⟩
theorem ri_range2 {p : Pos} (hg : Gl X "range") (hm : X.mg "range" = none) (ha : RA X C [a, b] tA g) (hs : starEach [a, b] X.env = [(false, eval a X.env), (false, eval b X.env)] := by rfl) (hs2 : starEach [b] X.env = [(false, eval b X.env)] := by rfl) : RI X C tg (.Call (.Name "range" p) [a, b] [] pos) (iRng2 tA) (iRange2 g) := ⟨pi_range2 hg hm ha.p hs hs2, fun m σ H δ S items S' R er sr hf q => by
  unfold iRange2 at hf
  obtain ⟨⟨ds, S1⟩, q1, hf⟩ := Option.bind_eq_some_iff.mp hf
  refine ha.s m σ H δ S _ S1 _ er sr q1 fun v m1 H1 e1 s1 r1 => ?_
  split at hf
  · rename_i i j hk
    have hk : ds = [.int i, .int j] := hk
    subst hk
    split at hf
    · rename_i hb
      cases hf
      cases r1 with
      | cons r1 rr =>
        cases rr with
        | cons r2 rr =>
          cases rr; cases r1; cases r2
          exact ⟨i, j, rfl, hb, q _ m1 H1 e1 s1 (yld_range i j)⟩
    · cases hf
  · cases hf⟩

/-! ### comprehensions -/
/-- the list's items from the walked ones, the slots as they are ahead of each turn -/
def lcD (gd : G) (c : T) (e : E) (δ : Sl) : List D → List O → Option (List D × List O)
  | [], S => some ([], S)
  | d :: ds, S => (gd d δ).bind fun δ1 => (c δ1 S).bind fun p => if p.1 = true then (e δ1 p.2).bind fun q => (lcD gd c e δ ds q.2).bind fun r => some (q.1 :: r.1, r.2) else lcD gd c e δ ds p.2
def tTrue : T := fun _ S => some (true, S)
def aLc (it : A) (gd : G) (c : T) (e : E) (vs : List Nat) : A := fun δ S => (it δ S).bind fun p => if p.1.length ≤ 10000000 then lcD gd c e (wipeD δ vs) p.1 p.2 else none
structure RTs (X : Cx) (C : Addr) (es : List Expr) (t : TT) (f : T) : Prop where
  p : PTs X es t
  s : TSem C X.K t f
theorem rts_nil : RTs X C [] tYes tTrue := ⟨pts_nil, fun m σ H δ S b S' Q er sr hf q => by cases hf; exact q m H .refl sr⟩
theorem rts_one {t : TT} {f : T} (h : RT X C e t f) : RTs X C [e] t f := ⟨pts_one h.p, h.s⟩
theorem small_acc {n : Nat} (h : n ≤ 10000000) : n < sizeLine := Nat.lt_of_le_of_lt h (by rw [sizeLine_eq]; decide)
theorem s_lc {K : PySem.W.Frag} {wi : TI} {gt : TG} {tt : TT} {it : A} {gd : G} {cf : T} {vs : List Nat} (hi : ISem C K wi it) (hg : GSem C K gt gd vs) (ht : TSem C K tt cf) (he : ESem C K te f) :
    LSem C K (tLc wi gt tt te vs) (aLc it gd cf f vs) := fun m σ H δ S ds S' Q er sr hf q => by
  unfold aLc at hf
  obtain ⟨⟨items, S1⟩, q1, hf⟩ := Option.bind_eq_some_iff.mp hf
  split at hf
  · rename_i hlen
    have hlen : items.length ≤ 10000000 := hlen
    refine hi m σ H δ S items S1 _ er sr q1 fun J m1 H1 e1 s1 Y p hp => ?_
    have hp0 : H p = none := e1.free s1 hp
    refine ⟨fun i n Hc => n = items.length - i ∧ i ≤ items.length ∧ ∃ lc Sc acc outs rest, Ev m1 H1 ⟨lc, m1.b⟩ Hc ∧ SR C K ⟨lc, p :: m1.b⟩ Hc Sc ∧ Hc p = some (.lst acc) ∧ acc.length ≤ i ∧ RpAll K ⟨lc, p :: m1.b⟩ Hc acc outs ∧
      lcD gd cf f (wipeD δ vs) (items.drop i) Sc = some (rest, S') ∧ ds = outs ++ rest ∧ ER K ⟨lc, p :: m1.b⟩ Hc σ δ, ⟨items.length, by simp, Nat.zero_le _, m1.l, S1, [], [], ds, .lay hp, s1.hideLay hp, upd_same, by simp, .nil, by simpa using hf, by simp, ?_⟩, ?_⟩
    · exact ⟨er.len, fun i d q => let ⟨v, a, b⟩ := (er.ev e1).get i d q; ⟨v, a, b.hide hp (.lay hp)⟩⟩
    rintro i n Hc ⟨rfl, hle, lc, Sc, acc, outs, rest, ey, sc, hacc, hal, racc, hl, hds, erc⟩
    have hpl : p ∉ lc := sc.apt p List.mem_cons_self
    obtain ⟨yg, ys, yy⟩ := Y ⟨lc, p :: m1.b⟩ Hc Sc ⟨ey, fun a ha => by
      rcases List.mem_cons.mp ha with q | q
      · subst q; exact .inr hp
      · exact .inl q⟩ sc
    by_cases hi' : i < items.length
    · refine .inr ⟨yg i hi', _, fun H' h => ⟨items.length - (i + 1), by omega, h⟩, fun x Hx y => ?_⟩
      obtain ⟨d, hd⟩ := lt_get hi'
      obtain ⟨ex, sx, rx⟩ := yy i d x Hx hd y
      have hdr : items.drop i = d :: items.drop (i + 1) := by
        rw [List.drop_eq_getElem_cons hi']
        rw [List.getElem?_eq_getElem hi'] at hd
        cases hd
        rfl
      rw [hdr] at hl
      unfold lcD at hl
      obtain ⟨δ1, g1, hl⟩ := Option.bind_eq_some_iff.mp hl
      obtain ⟨⟨b, S2⟩, c1, hl⟩ := Option.bind_eq_some_iff.mp hl
      have hx0 : Hx p = some (.lst acc) := ex.keep _ _ hacc hpl
      refine hg _ _ Hx _ Sc x d δ1 _ ((erc.ev ex).wipe vs) sx rx g1 fun σ1 er1 w1 => ⟨w1.trans (wipe_wipe fun v h => h), ?_⟩
      refine ht _ σ1 Hx δ1 Sc b S2 _ er1 sx c1 fun m2 H2 e2 s2 => ?_
      obtain ⟨l2, b2⟩ := m2
      have hb2 : b2 = p :: m1.b := e2.hid
      subst hb2
      have hx2 : H2 p = some (.lst acc) := e2.keep _ _ hx0 hpl
      have eyx : Ev m1 H1 ⟨lc, m1.b⟩ Hx := by
        refine { pre := ey.pre, hid := rfl, new := ey.new, tup := fun a u h => ex.tup _ _ (ey.tup _ _ h), frz := fun a u v h => ex.frz _ _ _ (ey.frz _ _ _ h), keep := fun a o h n => ?_ }
        have q := ey.keep a o h n
        refine ex.keep a o q fun z => ?_
        rcases ey.new a z with z | z
        · exact n z
        · rw [h] at z
          cases z
      have ey2 : Ev m1 H1 ⟨l2, m1.b⟩ H2 := eyx.trans ⟨e2.pre, rfl, e2.new, e2.keep, e2.tup, e2.frz⟩
      have hpl2 : p ∉ l2 := s2.apt p List.mem_cons_self
      cases b with
      | true =>
        have hl := hl
        rw [if_pos rfl] at hl ⊢
        obtain ⟨⟨d3, S3⟩, c3, hl⟩ := Option.bind_eq_some_iff.mp hl
        obtain ⟨⟨ds4, S4⟩, c4, hl⟩ := Option.bind_eq_some_iff.mp hl
        cases hl
        refine he _ σ1 H2 δ1 S2 d3 S3 _ (er1.ev e2) s2 c3 fun y m3 H3 e3 s3 r3 => ?_
        obtain ⟨l3, b3⟩ := m3
        have hb3 : b3 = p :: m1.b := e3.hid
        subst hb3
        have hx3 : H3 p = some (.lst acc) := e3.keep _ _ hx2 hpl2
        have ey3 : Ev m1 H1 ⟨l3, m1.b⟩ H3 := ey2.trans ⟨e3.pre, rfl, e3.new, e3.keep, e3.tup, e3.frz⟩
        have eall : Ev ⟨lc, p :: m1.b⟩ Hc ⟨l3, p :: m1.b⟩ H3 := ex.trans (e2.trans e3)
        refine ⟨acc, hx3, small_acc (by omega), rfl, hi', l3, S3, acc ++ [y], outs ++ [d3], ds4, ey3.over hp, s3.over List.mem_cons_self hx3, upd_same, by rw [List.length_append, List.length_singleton]; omega, ?_, c4, by rw [hds, List.append_assoc]; rfl, ?_⟩
        · exact RpAll.over List.mem_cons_self hx3 ((racc.ev eall).append (.cons r3 .nil))
        · exact ⟨erc.len, fun i d q => let ⟨v, a, b⟩ := (erc.ev eall).get i d q; ⟨v, a, b.over List.mem_cons_self hx3⟩⟩
      | false =>
        have hl := hl
        rw [if_neg (by exact Bool.false_ne_true)] at hl ⊢
        exact ⟨rfl, hi', l2, S2, acc, outs, rest, ey2, s2, hx2, by omega, racc.ev (ex.trans e2), hl, hds, erc.ev (ex.trans e2)⟩
    · have hi2 : i = items.length := by omega
      subst hi2
      refine .inl ⟨ys, ?_⟩
      rw [List.drop_length] at hl
      cases hl
      rw [List.append_nil] at hds
      subst hds
      exact q p acc ⟨lc, m1.b⟩ Hc (e1.trans ey) hp0 hacc sc racc
  · cases hf
end
end Cb
namespace Cb
open PySem PySem.Spec PyProof.Rows L2

section
variable {X : Cx} {C : Addr} {pos : Pos} {a b c e tg iter : Expr} {es : List Expr} {ta tb tc te : TE} {tA : TA} {fa fb fc f : E} {g : A}
/-! the widest readings -/
def cE (C : Addr) (K : PySem.W.Frag) (f : E) : TE := fun σ H Q => ∃ m δ S d S', ER K m H σ δ ∧ SR C K m H S ∧ f δ S = some (d, S') ∧ ∀ v m' H', Ev m H m' H' → SR C K m' H' S' → Rp K m' H' v d → Q v H'
def cT (C : Addr) (K : PySem.W.Frag) (f : T) : TT := fun σ H Q => ∃ m δ S d S', ER K m H σ δ ∧ SR C K m H S ∧ f δ S = some (d, S') ∧ ∀ m' H', Ev m H m' H' → SR C K m' H' S' → Q d H'
def cG (C : Addr) (K : PySem.W.Frag) (g : G) (vs : List Nat) : TG := fun x σ H Q => ∃ m δ S d δ', ER K m H σ δ ∧ SR C K m H S ∧ Rp K m H x d ∧ g d δ = some δ' ∧ ∀ σ', ER K m H σ' δ' → wipe σ' vs = wipe σ vs → Q σ' H
theorem RE.can {t : TE} (h : RE X C e t f) : RE X C e (cE C X.K f) f := ⟨⟨fun pins s σ H Q I ⟨m, δ, S, d, S', er, sr, hf, q⟩ => h.p.run pins s σ H Q I (h.s m σ H δ S d S' Q er sr hf q)⟩, fun m σ H δ S d S' Q er sr hf q => ⟨m, δ, S, d, S', er, sr, hf, q⟩⟩
theorem RTs.can {t : TT} {f : T} (h : RTs X C es t f) : RTs X C es (cT C X.K f) f := ⟨⟨fun pins s σ H Q I ⟨m, δ, S, d, S', er, sr, hf, q⟩ => h.p.run pins s σ H Q I (h.s m σ H δ S d S' Q er sr hf q)⟩, fun m σ H δ S d S' Q er sr hf q => ⟨m, δ, S, d, S', er, sr, hf, q⟩⟩
theorem RG.can {t : TG} {g : G} {vs : List Nat} (h : RG X C e t g vs) : RG X C e (cG C X.K g vs) g vs := ⟨⟨fun pins s σ H x v Q I r ⟨m, δ, S, d, δ', er, sr, rx, hf, q⟩ => h.p.run pins s σ H x v Q I r (h.s m σ H δ S x d δ' Q er sr rx hf q)⟩, fun m σ H δ S x d δ' Q er sr r hf q => ⟨m, δ, S, d, δ', er, sr, r, hf, q⟩⟩
structure RB (X : Cx) (C : Addr) (scope : Scope) (own : List (Str × Nat)) (tg : Expr) (ifs : List Expr) (elt : Expr) (gd : G) (cf : T) (f : E) : Prop where
  ok : BlkOk X.N X.env.scope scope own
  g : ∀ (s : Shared) (H : Hp) (C' : Addr) (cl : List (Str × Addr)) (fp : List Addr), ∃ t, RG (X.blk s H scope (compEnvC scope cl C' X.env) fp) C tg t gd (own.map (·.2))
  t : ∀ (s : Shared) (H : Hp) (C' : Addr) (cl : List (Str × Addr)) (fp : List Addr), ∃ t, RTs (X.blk s H scope (compEnvC scope cl C' X.env) fp) C ifs t cf
  e : ∀ (s : Shared) (H : Hp) (C' : Addr) (cl : List (Str × Addr)) (fp : List Addr), ∃ t, RE (X.blk s H scope (compEnvC scope cl C' X.env) fp) C elt t f
section
variable {elt : Expr} {ifs : List Expr} {scope : Scope} {own : List (Str × Nat)} {wi : TI} {it : A} {gd : G} {cf : T}
theorem RB.g' (b : RB X C scope own tg ifs elt gd cf f) (s : Shared) (H : Hp) (C' : Addr) (cl : List (Str × Addr)) (fp : List Addr) : RG (X.blk s H scope (compEnvC scope cl C' X.env) fp) C tg (cG C X.K gd (own.map (·.2))) gd (own.map (·.2)) :=
  let ⟨_, h⟩ := b.g s H C' cl fp; h.can
theorem RB.t' (b : RB X C scope own tg ifs elt gd cf f) (s : Shared) (H : Hp) (C' : Addr) (cl : List (Str × Addr)) (fp : List Addr) : RTs (X.blk s H scope (compEnvC scope cl C' X.env) fp) C ifs (cT C X.K cf) cf :=
  let ⟨_, h⟩ := b.t s H C' cl fp; h.can
theorem RB.e' (b : RB X C scope own tg ifs elt gd cf f) (s : Shared) (H : Hp) (C' : Addr) (cl : List (Str × Addr)) (fp : List Addr) : RE (X.blk s H scope (compEnvC scope cl C' X.env) fp) C elt (cE C X.K f) f :=
  let ⟨_, h⟩ := b.e s H C' cl fp; h.can
theorem rl_lc (hc : X.calm = true) (hN : X.N.Nodup) (hi : RI X C tg iter wi it) (b : RB X C scope own tg ifs elt gd cf f) (hs : ∀ x, foldedSetIterable iter X.env x = pure x := by intro _; rfl) :
    RL X C (.ListComp elt [⟨tg, iter, ifs, 0⟩] scope pos) (tLc wi (cG C X.K gd (own.map (·.2))) (cT C X.K cf) (cE C X.K f) (own.map (·.2))) (aLc it gd cf f (own.map (·.2))) :=
  ⟨pe_lc hc hN hi.p b.ok (fun s H C' cl fp => (b.g' s H C' cl fp).p) (fun s H C' cl fp => (b.t' s H C' cl fp).p) (fun s H C' cl fp => (b.e' s H C' cl fp).p) hs, s_lc hi.s (b.g' X.s_0 X.H_0 0 [] []).s (b.t' X.s_0 X.H_0 0 [] []).s (b.e' X.s_0 X.H_0 0 [] []).s⟩
end

/-! ### statements -/
def sSet (i : Nat) (f : E) : B := fun δ S => (f δ S).bind fun p => some (.nx (δ.set i (some p.1)) p.2)
theorem s_set {K : PySem.W.Frag} {i : Nat} (h : ESem C K te f) : SSem C K (tAsg te (gName i)) (sSet i f) := fun m σ H δ S o Z er sr hf q => by
  unfold sSet at hf
  obtain ⟨⟨d1, S1⟩, q1, hf⟩ := Option.bind_eq_some_iff.mp hf
  cases hf
  exact h m σ H δ S d1 S1 _ er sr q1 fun v m1 H1 e1 s1 r1 => q m1 _ H1 e1 ((er.ev e1).set i r1) s1
theorem rs_set {x : Str} {pos' : Pos} (i : Nat) (hN : X.N.Nodup) (he : RE X C e te f) (hi : X.N[i]? = some x := by rfl) (hx : Loc X.env.scope x := by first | exact Or.inl rfl | exact Or.inr rfl) (hs : swapsWith e (some (.Name x pos')) pos.line X.env = pure false := by rfl) (hf : X.fn x = true ∨ X.env.scope.names.lookup x = some .local := by first | exact .inl rfl | exact .inr rfl | assumption) :
    RS X C (.Assign [.Name x pos'] e pos) (tAsg te (gName i)) (sSet i f) := ⟨ps_set hN hi hx he.p hs hf, s_set he.s⟩
section
variable {elt : Expr} {ifs : List Expr} {scope : Scope} {own : List (Str × Nat)} {wi : TI} {it : A} {gd : G} {cf : T} {y : Str} {py spos : Pos}
theorem rs_lc (i : Nat) (hc : X.calm = true) (hN : X.N.Nodup) (hi : RI X C tg iter wi it) (b : RB X C scope own tg ifs elt gd cf f)
    (hsw : swapsWith (.ListComp elt [⟨tg, iter, ifs, 0⟩] scope pos) (some (.Name y py)) spos.line X.env = pure true)
    (hy : X.N[i]? = some y := by rfl) (hyl : X.env.scope.names.lookup y = some .local := by rfl) (hs : ∀ x, foldedSetIterable iter X.env x = pure x := by intro _; rfl) :
    RS X C (.Assign [.Name y py] (.ListComp elt [⟨tg, iter, ifs, 0⟩] scope pos) spos) (tAsg (tLc wi (cG C X.K gd (own.map (·.2))) (cT C X.K cf) (cE C X.K f) (own.map (·.2))) (gName i)) (sSet i (eL (aLc it gd cf f (own.map (·.2))))) :=
  ⟨ps_setLc hc hN hy hyl hsw hi.p b.ok (fun s H C' cl fp => (b.g' s H C' cl fp).p) (fun s H C' cl fp => (b.t' s H C' cl fp).p) (fun s H C' cl fp => (b.e' s H C' cl fp).p) hs,
    s_set (s_L (s_lc hi.s (b.g' X.s_0 X.H_0 0 [] []).s (b.t' X.s_0 X.H_0 0 [] []).s (b.e' X.s_0 X.H_0 0 [] []).s))⟩
theorem rs_lcM (i : Nat) (hc : X.calm = true) (hN : X.N.Nodup) (hi : RI X C tg iter wi it) (b : RB X C scope own tg ifs elt gd cf f)
    (hsw : swapsWith (.ListComp elt [⟨tg, iter, ifs, 0⟩] scope pos) (some (.Name y py)) spos.line X.env = pure true)
    (hy : X.N[i]? = some y := by rfl) (hyl : X.env.scope.names.lookup y = some .local := by rfl) (hs : ∀ x, foldedSetIterable iter X.env x = pure x := by intro _; rfl) :
    RS X C (.Assign [.Name y py] (.ListComp elt [⟨tg, iter, ifs, 0⟩] scope pos) spos) (tAsg (tLc wi (cG C X.K gd (own.map (·.2))) (cT C X.K cf) (cE C X.K f) (own.map (·.2))) (gName i)) (sSet i (eLM (aLc it gd cf f (own.map (·.2))))) :=
  ⟨ps_setLc hc hN hy hyl hsw hi.p b.ok (fun s H C' cl fp => (b.g' s H C' cl fp).p) (fun s H C' cl fp => (b.t' s H C' cl fp).p) (fun s H C' cl fp => (b.e' s H C' cl fp).p) hs,
    s_set (s_LM (s_lc hi.s (b.g' X.s_0 X.H_0 0 [] []).s (b.t' X.s_0 X.H_0 0 [] []).s (b.e' X.s_0 X.H_0 0 [] []).s))⟩
end
def sAsg (f : E) (g : G) : B := fun δ S => (f δ S).bind fun p => (g p.1 δ).bind fun δ' => some (.nx δ' p.2)
theorem rs_asg {gt : TG} {gd : G} {vs : List Nat} (he : RE X C e te f) (hg : RG X C tg gt gd vs) (hs : swapsWithSole [tg] e pos.line X.env = pure false := by rfl) (hw : swappedStores [tg] e X.env = pure none := by rfl) (hq : (assignEach [tg] X.env).map (·.2) = [assign tg X.env] := by rfl) : RS X C (.Assign [tg] e pos) (tAsg te gt) (sAsg f gd) :=
  ⟨ps_asg he.p hg.p hs hw hq, fun m σ H δ S o Z er sr hf q => by
    unfold sAsg at hf
    obtain ⟨⟨d1, S1⟩, q1, hf⟩ := Option.bind_eq_some_iff.mp hf
    obtain ⟨δ', q2, hf⟩ := Option.bind_eq_some_iff.mp hf
    cases hf
    refine he.s m σ H δ S d1 S1 _ er sr q1 fun v m1 H1 e1 s1 r1 => ?_
    exact hg.s m1 σ H1 δ S1 v d1 δ' _ (er.ev e1) s1 r1 q2 fun σ1 er1 _ => q m1 σ1 H1 e1 er1 s1⟩
def sRet (f : E) : B := fun δ S => (f δ S).bind fun p => some (.rt p.1 p.2)
theorem rs_ret (he : RE X C e te f) : RS X C (.Return (some e) pos) (tRet te) (sRet f) := ⟨ps_ret he.p, fun m σ H δ S o Z er sr hf q => by
  unfold sRet at hf
  obtain ⟨⟨d1, S1⟩, q1, hf⟩ := Option.bind_eq_some_iff.mp hf
  cases hf
  exact he.s m σ H δ S d1 S1 _ er sr q1 fun v m1 H1 e1 s1 r1 => q v m1 H1 e1 s1 r1⟩
def sExp (f : E) : B := fun δ S => (f δ S).bind fun p => some (.nx δ p.2)
theorem rs_expr (he : RE X C e te f) (hs : swapsWith e none pos.line X.env = pure false := by rfl) : RS X C (.Expr e pos) (tDrop te) (sExp f) := ⟨ps_expr he.p hs, fun m σ H δ S o Z er sr hf q => by
  unfold sExp at hf
  obtain ⟨⟨d1, S1⟩, q1, hf⟩ := Option.bind_eq_some_iff.mp hf
  cases hf
  exact he.s m σ H δ S d1 S1 _ er sr q1 fun v m1 H1 e1 s1 r1 => q m1 σ H1 e1 (er.ev e1) s1⟩
def sNext : B := fun δ S => some (.nx δ S)
def sSeq (x y : B) : B := fun δ S => (x δ S).bind fun o => match o with | .nx δ' S' => y δ' S' | o => some o
def sIf (c : T) (x y : B) : B := fun δ S => (c δ S).bind fun p => if p.1 = true then x δ p.2 else y δ p.2
def sNever : B := fun _ _ => none
variable {st : Stmt} {sts : List Stmt} {t1 t2 : TS} {b1 b2 : B} {tt : TT} {cf : T}
theorem rss_nil : RSs X C [] tNext sNext := ⟨pss_nil, fun m σ H δ S o Z er sr hf q => by cases hf; exact q m σ H .refl er sr⟩
theorem rss_cons (h1 : RS X C st t1 b1) (h2 : RSs X C sts t2 b2) : RSs X C (st :: sts) (tSeq t1 t2) (sSeq b1 b2) := ⟨pss_cons h1.p h2.p, fun m σ H δ S o Z er sr hf q => by
  unfold sSeq at hf
  obtain ⟨o1, q1, hf⟩ := Option.bind_eq_some_iff.mp hf
  refine h1.s m σ H δ S o1 _ er sr q1 ?_
  split at hf
  · exact fun m1 σ1 H1 e1 er1 s1 => h2.s m1 σ1 H1 _ _ o Z er1 s1 hf (q.ev e1)
  · cases hf
    cases o with
    | nx δ' S' => rename_i h; exact absurd rfl (h δ' S')
    | rt d S' => exact q
    | bk δ' S' => exact q
    | ct δ' S' => exact q⟩
theorem rss_one (h1 : RS X C st t1 b1) : RSs X C [st] t1 b1 := ⟨pss_one h1.p, h1.s⟩
theorem rs_if {x y : List Stmt} (hc : RT X C c tt cf) (h1 : RSs X C x t1 b1) (h2 : RSs X C y t2 b2) : RS X C (.If c x y pos) (tIfS tt t1 t2) (sIf cf b1 b2) := ⟨ps_if hc.p h1.p h2.p, fun m σ H δ S o Z er sr hf q => by
  unfold sIf at hf
  obtain ⟨⟨k, S1⟩, q1, hf⟩ := Option.bind_eq_some_iff.mp hf
  refine hc.s m σ H δ S k S1 _ er sr q1 fun m1 H1 e1 s1 => ?_
  cases k with
  | true => exact iteT (h1.s m1 σ H1 δ S1 o Z (er.ev e1) s1 hf (q.ev e1))
  | false => exact iteF (h2.s m1 σ H1 δ S1 o Z (er.ev e1) s1 hf (q.ev e1))⟩
theorem rs_never : RS X C st tNever sNever := ⟨ps_never, fun m σ H δ S o Z er sr hf q => by cases hf⟩
def sBrk : B := fun δ S => some (.bk δ S)
theorem rs_break : RS X C (.Break pos) tBreak sBrk := ⟨ps_break, fun m σ H δ S o Z er sr hf q => by cases hf; exact q m σ H .refl er sr⟩

/-! ### loops -/
def forD (gd : G) (b : B) : List D → Sl → List O → Option Out
  | [], δ, S => some (.nx δ S)
  | d :: ds, δ, S => (gd d δ).bind fun δ1 => (b δ1 S).bind fun o => match o with
    | .nx δ2 S2 => forD gd b ds δ2 S2
    | .ct δ2 S2 => forD gd b ds δ2 S2
    | .bk δ2 S2 => some (.nx δ2 S2)
    | .rt d S2 => some (.rt d S2)
def sFor (it : A) (gd : G) (b : B) : B := fun δ S => (it δ S).bind fun p => forD gd b p.1 δ p.2
theorem s_for {K : PySem.W.Frag} {wi : TI} {gt : TG} {it : A} {gd : G} {vs : List Nat} (hi : ISem C K wi it) (hg : GSem C K gt gd vs) (hb : SSem C K t1 b1) : SSem C K (tFor wi gt t1) (sFor it gd b1) := fun m σ H δ S o Z er sr hf q => by
  unfold sFor at hf
  obtain ⟨⟨items, S1⟩, q1, hf⟩ := Option.bind_eq_some_iff.mp hf
  refine hi m σ H δ S items S1 _ er sr q1 fun J m1 H1 e1 s1 Y => ?_
  refine ⟨fun i n σc Hc => n = items.length - i ∧ i ≤ items.length ∧ ∃ mc δc Sc, Ev m1 H1 mc Hc ∧ ER K mc Hc σc δc ∧ SR C K mc Hc Sc ∧ forD gd b1 (items.drop i) δc Sc = some o,
    ⟨items.length, by simp, Nat.zero_le _, m1, δ, S1, .refl, er.ev e1, s1, by simpa using hf⟩, ?_⟩
  rintro i n σc Hc ⟨rfl, hle, mc, δc, Sc, ec, erc, sc, hl⟩
  obtain ⟨yg, ys, yy⟩ := Y mc Hc Sc (.of ec) sc
  by_cases hi' : i < items.length
  · refine .inr ⟨yg i hi', _, fun σ' H' h => ⟨items.length - (i + 1), by omega, h⟩, fun x Hx y => ?_⟩
    obtain ⟨d, hd⟩ := lt_get hi'
    obtain ⟨ex, sx, rx⟩ := yy i d x Hx hd y
    have hdr : items.drop i = d :: items.drop (i + 1) := by
      rw [List.drop_eq_getElem_cons hi']
      rw [List.getElem?_eq_getElem hi'] at hd
      cases hd
      rfl
    rw [hdr] at hl
    unfold forD at hl
    obtain ⟨δ1, g1, hl⟩ := Option.bind_eq_some_iff.mp hl
    obtain ⟨o1, c1, hl⟩ := Option.bind_eq_some_iff.mp hl
    refine hg mc σc Hx δc Sc x d δ1 _ (erc.ev ex) sx rx g1 fun σ1 er1 _ => ?_
    refine hb mc σ1 Hx δ1 Sc o1 _ er1 sx c1 ?_
    cases o1 with
    | nx δ2 S2 => exact fun m2 σ2 H2 e2 er2 s2 => ⟨rfl, hi', m2, δ2, S2, ec.trans (ex.trans e2), er2, s2, hl⟩
    | ct δ2 S2 => exact fun m2 σ2 H2 e2 er2 s2 => ⟨rfl, hi', m2, δ2, S2, ec.trans (ex.trans e2), er2, s2, hl⟩
    | bk δ2 S2 => cases hl; exact fun m2 σ2 H2 e2 er2 s2 => q m2 σ2 H2 (e1.trans (ec.trans (ex.trans e2))) er2 s2
    | rt d S2 => cases hl; exact fun v m2 H2 e2 s2 r2 => q v m2 H2 (e1.trans (ec.trans (ex.trans e2))) s2 r2
  · have hi2 : i = items.length := by omega
    subst hi2
    rw [List.drop_length] at hl
    cases hl
    exact .inl ⟨ys, q mc σc Hc (e1.trans ec) erc sc⟩
theorem rs_for {body : List Stmt} {wi : TI} {gt : TG} {it : A} {gd : G} {vs : List Nat} (hp : PassesOwn (model X.prog X.w) X.A X.env X.xe) (hc : X.calm = true) (hi : RI X C tg iter wi it) (hg : RG X C tg gt gd vs) (hb : RSs X C body t1 b1)
    (hs : ∀ x, foldedSetIterable iter X.env x = pure x := by intro _; rfl) : RS X C (.For tg iter body [] pos) (tFor wi gt t1) (sFor it gd b1) := ⟨ps_for hp hc hi.p hg.p hb.p hs, s_for hi.s hg.s hb.s⟩
def whD (c : T) (b : B) : Nat → Sl → List O → Option Out
  | 0, _, _ => none
  | n + 1, δ, S => (c δ S).bind fun p => if p.1 = true then (b δ p.2).bind fun o => match o with
      | .nx δ2 S2 => whD c b n δ2 S2
      | .ct δ2 S2 => whD c b n δ2 S2
      | .bk δ2 S2 => some (.nx δ2 S2)
      | .rt d S2 => some (.rt d S2)
    else some (.nx δ p.2)
/-- turns enough for every loop here -/
def big : Nat := 1000000000000
def sWhile (c : T) (b : B) : B := fun δ S => whD c b big δ S
theorem s_wh {K : PySem.W.Frag} (hc : TSem C K tt cf) (hb : SSem C K t1 b1) (n0 : Nat) : SSem C K (tWhile tt t1) (fun δ S => whD cf b1 n0 δ S) := fun m σ H δ S o Z er sr hf q => by
  refine ⟨fun n σc Hc => ∃ mc δc Sc, Ev m H mc Hc ∧ ER K mc Hc σc δc ∧ SR C K mc Hc Sc ∧ whD cf b1 n δc Sc = some o, ⟨n0, m, δ, S, .refl, er, sr, hf⟩, ?_⟩
  rintro n σc Hc ⟨mc, δc, Sc, ec, erc, sc, hl⟩
  cases n with
  | zero => cases hl
  | succ n =>
    unfold whD at hl
    obtain ⟨⟨k, S1⟩, c1, hl⟩ := Option.bind_eq_some_iff.mp hl
    refine hc mc σc Hc δc Sc k S1 _ erc sc c1 fun m1 H1 e1 s1 => ?_
    cases k with
    | true =>
      have hl := hl
      rw [if_pos rfl] at hl ⊢
      obtain ⟨o1, c2, hl⟩ := Option.bind_eq_some_iff.mp hl
      refine ⟨fun σ' H' => ∃ mc δc Sc, Ev m H mc H' ∧ ER K mc H' σ' δc ∧ SR C K mc H' Sc ∧ whD cf b1 n δc Sc = some o, fun σ' H' h => ⟨n, Nat.lt_succ_self _, h⟩, ?_⟩
      refine hb m1 σc H1 δc S1 o1 _ (erc.ev e1) s1 c2 ?_
      cases o1 with
      | nx δ2 S2 => exact fun m2 σ2 H2 e2 er2 s2 => ⟨m2, δ2, S2, ec.trans (e1.trans e2), er2, s2, hl⟩
      | ct δ2 S2 => exact fun m2 σ2 H2 e2 er2 s2 => ⟨m2, δ2, S2, ec.trans (e1.trans e2), er2, s2, hl⟩
      | bk δ2 S2 => cases hl; exact fun m2 σ2 H2 e2 er2 s2 => q m2 σ2 H2 (ec.trans (e1.trans e2)) er2 s2
      | rt d S2 => cases hl; exact fun v m2 H2 e2 s2 r2 => q v m2 H2 (ec.trans (e1.trans e2)) s2 r2
    | false =>
      have hl := hl
      rw [if_neg (by exact Bool.false_ne_true)] at hl ⊢
      cases hl
      exact q m1 σc H1 (ec.trans e1) (erc.ev e1) s1
theorem rs_while {body : List Stmt} (hp : PassesOwn (model X.prog X.w) X.A X.env X.xe) (hc : RT X C c tt cf) (hb : RSs X C body t1 b1) : RS X C (.While c body [] pos) (tWhile tt t1) (sWhile cf b1) := ⟨ps_while hp hc.p hb.p, s_wh hc.s hb.s big⟩

/-! ### what changes an object -/
def setO (S : List O) (d : D) (f : O → Option O) : Option (List O) := match d with
  | .ref n => (S[n]?).bind fun o => (f o).bind fun o' => some (S.set n o')
  | _ => none
theorem setO_inv {S S' : List O} {d : D} {f : O → Option O} (h : setO S d f = some S') : ∃ n ob ob', d = .ref n ∧ S[n]? = some ob ∧ f ob = some ob' ∧ S' = S.set n ob' := by
  unfold setO at h
  split at h
  · obtain ⟨ob, q5, h⟩ := Option.bind_eq_some_iff.mp h
    obtain ⟨ob', q6, h⟩ := Option.bind_eq_some_iff.mp h
    cases h
    exact ⟨_, ob, ob', rfl, q5, q6, rfl⟩
  · cases h
/-- xs[i] = e -/
def sSetIx (fe fo fi : E) : B := fun δ S => (fe δ S).bind fun v => (fo δ v.2).bind fun o => (fi δ o.2).bind fun i => match i.1 with
  | .int k => (setO i.2 o.1 fun ob => match ob with | .lst xs => (ixN xs.length k).bind fun j => some (.lst (xs.set j v.1)) | _ => none).bind fun S' => some (.nx δ S')
  | _ => none
theorem rs_setIx {pos' : Pos} (pg : PE X a ta → PE X b tb → PG X (.Subscript a b pos') (L2.gSub ta tb rSetL)) (he : RE X C e te f) (ho : RE X C a ta fa) (hi : RE X C b tb fb) (hs : swapsWithSole [.Subscript a b pos'] e pos.line X.env = pure false := by rfl) (hw : swappedStores [.Subscript a b pos'] e X.env = pure none := by rfl)
    (hq : (assignEach [.Subscript a b pos'] X.env).map (·.2) = [assign (.Subscript a b pos') X.env] := by rfl) :
    RS X C (.Assign [.Subscript a b pos'] e pos) (tAsg te (L2.gSub ta tb rSetL)) (sSetIx f fa fb) := ⟨ps_asg he.p (pg ho.p hi.p) hs hw hq, fun m σ H δ S o Z er sr hf q => by
  unfold sSetIx at hf
  obtain ⟨⟨d1, S1⟩, q1, hf⟩ := Option.bind_eq_some_iff.mp hf
  obtain ⟨⟨d2, S2⟩, q2, hf⟩ := Option.bind_eq_some_iff.mp hf
  obtain ⟨⟨d3, S3⟩, q3, hf⟩ := Option.bind_eq_some_iff.mp hf
  split at hf
  · rename_i k hk
    have hk : d3 = .int k := hk
    subst hk
    obtain ⟨S4, q4, hf⟩ := Option.bind_eq_some_iff.mp hf
    cases hf
    refine he.s m σ H δ S d1 S1 _ er sr q1 fun v m1 H1 e1 s1 r1 => ?_
    refine ho.s m1 σ H1 δ S1 d2 S2 _ (er.ev e1) s1 q2 fun u m2 H2 e2 s2 r2 => ?_
    refine hi.s m2 σ H2 δ S2 _ S3 _ (er.ev (e1.trans e2)) s2 q3 fun w m3 H3 e3 s3 r3 => ?_
    cases r3
    have r2' := r2.ev e3
    have r1' := r1.ev (e2.trans e3)
    obtain ⟨n, ob, ob', ed, q5, q6, eS⟩ := setO_inv q4
    have ed : d2 = .ref n := ed
    subst ed
    subst eS
    dsimp only at q6
    split at q6
    · obtain ⟨j, q7, q6⟩ := Option.bind_eq_some_iff.mp q6
      cases q6
      cases r2' with
      | @ref p _ hn =>
        obtain ⟨xs, h1, h2⟩ := s3.obj _ _ _ hn q5
        obtain ⟨_, hu, ht, hf⟩ := s3.nottup (List.mem_of_getElem? hn)
        have es : Ev m3 H3 m3 (upd H3 p (.lst (xs.set j v))) := .set (List.mem_of_getElem? hn) hu ht hf
        refine ⟨_, _, _, _, rfl, rfl, h1, by rw [h2.length]; exact q7, ?_⟩
        exact q m3 σ _ (e1.trans (e2.trans (e3.trans es))) (er.ev (e1.trans (e2.trans (e3.trans es)))) (s3.put hn ⟨_, upd_same, ((h2.set r1' j).ev es)⟩)
    · cases q6
  · cases hf⟩
/-- xs.append(e) -/
def eAppend (fo fe : E) : E := fun δ S => (fo δ S).bind fun o => (fe δ o.2).bind fun v => (setO v.2 o.1 fun ob => match ob with | .lst xs => if xs.length < 16777216 then some (.lst (xs ++ [v.1])) else none | _ => none).bind fun S' => some (.non, S')
theorem lt_line {n : Nat} (h : n < 16777216) : n < sizeLine := by rw [sizeLine_eq]; exact h
theorem isL_ref {K : PySem.W.Frag} {m : M} {H : Hp} {S : List O} {v : V} {d : D} {n : Nat} {xs : List D} (s : SR C K m H S) (r : Rp K m H v (.ref n)) (h : S[n]? = some (.lst xs)) : ∃ p ys, m.l[n]? = some p ∧ v = .ref p ∧ H p = some (.lst ys) ∧ RpAll K m H ys xs := by
  cases r with
  | ref hn =>
    obtain ⟨ys, h1, h2⟩ := s.obj _ _ _ hn h
    exact ⟨_, ys, hn, rfl, h1, h2⟩
theorem ref_lives {K : PySem.W.Frag} {m m' : M} {H H' : Hp} {S S' : List O} {d : D} (h : S = S') : True := trivial
/-- a list method's reading, for a changing list: the list ahead of the argument is a list there, too -/
def isLst (S : List O) : D → Bool
  | .ref n => match S[n]? with | some (.lst _) => true | _ => false
  | _ => false
theorem tyV_isLst {K : PySem.W.Frag} {m : M} {H : Hp} {S : List O} {v : V} {d : D} (s : SR C K m H S) (r : Rp K m H v d) (h : isLst S d = true) : tyV K "list" v H := by
  cases r with
  | @ref a n hn =>
    have h : (match S[n]? with | some (O.lst _) => true | _ => false) = true := h
    split at h
    · rename_i xs hs
      obtain ⟨vs, h1, h2⟩ := s.obj _ _ _ hn hs
      exact .inl ⟨rfl, _, .inl (.inl h1)⟩
    · cases h
  | _ => cases h
def eMeth1 (k : D → D → List O → Option (D × List O)) (fo fe : E) : E := fun δ S => (fo δ S).bind fun o => if isLst o.2 o.1 = true then (fe δ o.2).bind fun v => k o.1 v.1 v.2 else none
def kAppend (o v : D) (S : List O) : Option (D × List O) := (setO S o fun ob => match ob with | .lst xs => if xs.length < 16777216 then some (.lst (xs ++ [v])) else none | _ => none).bind fun S' => some (.non, S')
theorem re_append {apos : Pos} (pe : PE X a ta → PA X [e] (tCons te tNil) → PE X (.Call (.Attribute a "append" apos) [e] [] pos) (tBM X.K "list" rAppend ta (tCons te tNil))) (ho : RE X C a ta fa) (he : RE X C e te f)
    (hs : starEach [e] X.env = (false, eval e X.env) :: starEach [] X.env := by rfl) : RE X C (.Call (.Attribute a "append" apos) [e] [] pos) (tBM X.K "list" rAppend ta (tCons te tNil)) (eMeth1 kAppend fa f) :=
  ⟨pe ho.p (pa_cons he.p pa_nil hs), fun m σ H δ S d S' Q er sr hf q => by
    unfold eMeth1 at hf
    obtain ⟨⟨d1, S1⟩, q1, hf⟩ := Option.bind_eq_some_iff.mp hf
    split at hf
    · rename_i hl
      obtain ⟨⟨d2, S2⟩, q2, hf⟩ := Option.bind_eq_some_iff.mp hf
      unfold kAppend at hf
      obtain ⟨S3, q4, hf⟩ := Option.bind_eq_some_iff.mp hf
      cases hf
      refine ho.s m σ H δ S d1 S1 _ er sr q1 fun v m1 H1 e1 s1 r1 => ⟨tyV_isLst s1 r1 hl, ?_⟩
      refine he.s m1 σ H1 δ S1 d2 S2 _ (er.ev e1) s1 q2 fun u m2 H2 e2 s2 r2 => ?_
      have r1' := r1.ev e2
      obtain ⟨n, ob, ob', ed, q5, q6, eS⟩ := setO_inv q4
      subst ed
      subst eS
      dsimp only at q6
      split at q6
      · split at q6
        · rename_i hz
          cases q6
          cases r1' with
          | @ref p _ hn =>
            obtain ⟨xs, h1, h2⟩ := s2.obj _ _ _ hn q5
            obtain ⟨_, hu, ht, hf⟩ := s2.nottup (List.mem_of_getElem? hn)
            have es : Ev m2 H2 m2 (upd H2 p (.lst (xs ++ [u]))) := .set (List.mem_of_getElem? hn) hu ht hf
            refine ⟨_, _, _, rfl, rfl, h1, by rw [h2.length]; exact lt_line hz, ?_⟩
            exact q _ m2 _ (e1.trans (e2.trans es)) (s2.put hn ⟨_, upd_same, (h2.append (.cons r2 .nil)).ev es⟩) .non
        · cases q6
      · cases q6
    · cases hf⟩
def kReverse (o : D) (S : List O) : Option (D × List O) := (setO S o fun ob => match ob with | .lst xs => some (.lst xs.reverse) | _ => none).bind fun S' => some (.non, S')
def eMeth0 (k : D → List O → Option (D × List O)) (fo : E) : E := fun δ S => (fo δ S).bind fun o => if isLst o.2 o.1 = true then k o.1 o.2 else none
theorem re_reverse {apos : Pos} (pe : PE X a ta → PE X (.Call (.Attribute a "reverse" apos) [] [] pos) (tBM0 X.K "list" rReverse ta)) (ho : RE X C a ta fa) : RE X C (.Call (.Attribute a "reverse" apos) [] [] pos) (tBM0 X.K "list" rReverse ta) (eMeth0 kReverse fa) :=
  ⟨pe ho.p, fun m σ H δ S d S' Q er sr hf q => by
    unfold eMeth0 at hf
    obtain ⟨⟨d1, S1⟩, q1, hf⟩ := Option.bind_eq_some_iff.mp hf
    split at hf
    · rename_i hl
      unfold kReverse at hf
      obtain ⟨S3, q4, hf⟩ := Option.bind_eq_some_iff.mp hf
      cases hf
      refine ho.s m σ H δ S d1 S1 _ er sr q1 fun v m1 H1 e1 s1 r1 => ⟨tyV_isLst s1 r1 hl, ?_⟩
      obtain ⟨n, ob, ob', ed, q5, q6, eS⟩ := setO_inv q4
      have ed : d1 = .ref n := ed
      subst ed
      subst eS
      split at q6
      · cases q6
        cases r1 with
        | @ref p _ hn =>
          obtain ⟨xs, h1, h2⟩ := s1.obj _ _ _ hn q5
          obtain ⟨_, hu, ht, hf⟩ := s1.nottup (List.mem_of_getElem? hn)
          have es : Ev m1 H1 m1 (upd H1 p (.lst xs.reverse)) := .set (List.mem_of_getElem? hn) hu ht hf
          refine ⟨_, _, rfl, rfl, h1, ?_⟩
          exact q _ m1 _ (e1.trans es) (s1.put hn ⟨_, upd_same, h2.reverse.ev es⟩) .non
      · cases q6
    · cases hf⟩

/-! ### functions -/
mutual
/-- no number of an object from n on -/
def okD (n : Nat) : D → Bool
  | .non | .bl _ | .int _ | .str _ | .scr _ => true
  | .tup xs => okDs n xs
  | .lst xs => okDs n xs
  | .dic ks => okKs n ks
  | .ref j => decide (j < n)
  | .tun xs => okDs n xs
  | .fn _ => true
def okDs (n : Nat) : List D → Bool
  | [] => true
  | d :: ds => okD n d && okDs n ds
def okKs (n : Nat) : List (Key × D) → Bool
  | [] => true
  | (_, d) :: ds => okD n d && okKs n ds
end
theorem okKs_eq (n : Nat) : ∀ ks : List (Key × D), okKs n ks = okDs n (ks.map (·.2))
  | [] => rfl
  | (k, d) :: ks => by simp [okKs, okDs, okKs_eq n ks]
def okFs (n : Nat) (fs : List (Str × D)) : Bool := okDs n (fs.map (·.2))
def okO (n : Nat) : O → Bool
  | .lst xs => okDs n xs
  | .dic ks => okKs n ks
  | .ins fs => okFs n fs
def M.cut (m : M) (n : Nat) : M := ⟨m.l.take n, m.b⟩
mutual
theorem Rp.cut {K : PySem.W.Frag} {m : M} {H : Hp} {n : Nat} : ∀ {v : V} {d : D}, Rp K m H v d → okD n d = true → Rp K (m.cut n) H v d
  | _, _, .non, _ => .non
  | _, _, .bl b, _ => .bl b
  | _, _, .int i, _ => .int i
  | _, _, .str x, _ => .str x
  | _, _, .tup h r, c => .tup h (RpAll.cut' r (by simpa [okD] using c))
  | _, _, .lst h k r, c => .lst h (fun z => k (by
      rcases z with z | z
      · exact .inl (List.mem_of_mem_take z)
      · exact .inr z)) (RpAll.cut' r (by simpa [okD] using c))
  | _, _, .scr h, _ => .scr h
  | _, _, .dic h k l r, c => .dic h (fun z => k (by
      rcases z with z | z
      · exact .inl (List.mem_of_mem_take z)
      · exact .inr z)) l (RpAll.cut' r (by simpa [okD, okKs_eq] using c))
  | _, _, @Rp.ref _ _ _ a j h, c => .ref (by
      have hj : j < n := by simpa [okD] using c
      show (m.l.take n)[j]? = _
      rw [List.getElem?_take_of_lt hj]
      exact h)
  | _, _, .tun h h1 h2 r, c => .tun h h1 h2 (RpAll.cut' r (by simpa [okD] using c))
  | _, _, .fn h, _ => .fn h
theorem RpAll.cut' {K : PySem.W.Frag} {m : M} {H : Hp} {n : Nat} : ∀ {vs : List V} {ds : List D}, RpAll K m H vs ds → okDs n ds = true → RpAll K (m.cut n) H vs ds
  | _, _, .nil, _ => .nil
  | _, _, .cons r rs, c => by
    simp only [okDs, Bool.and_eq_true] at c
    exact .cons (Rp.cut r c.1) (RpAll.cut' rs c.2)
end
/-- what a def hands back, its own objects forgotten; a list or dict of its own becomes a value -/
def gcF (n : Nat) (p : D × List O) : Option (D × List O) :=
  if p.2.length ≤ n then some p else
  if (p.2.take n).all (okO n) = true then (match p.1 with
    | .ref j => if j < n then some (.ref j, p.2.take n) else (match p.2[j]? with
        | some (.lst xs) => if okDs n xs = true then some (.lst xs, p.2.take n) else none
        | some (.dic ks) => if okKs n ks = true then some (.dic ks, p.2.take n) else none
        | _ => none)
    | d => if okD n d = true then some (d, p.2.take n) else none)
  else none
def gcFn (F : Fn) : Fn := fun ds S => (F ds S).bind fun p => gcF S.length p
theorem cut_of {m m' : M} {H H' : Hp} {n : Nat} (e : Ev m H m' H') (hn : m.l.length = n) : m'.cut n = m := by
  obtain ⟨l, q⟩ := e.pre
  obtain ⟨l', b'⟩ := m'
  have hb : b' = m.b := e.hid
  have q : l' = m.l ++ l := q
  subst hb; subst q; subst hn
  show (⟨(m.l ++ l).take m.l.length, m.b⟩ : M) = m
  rw [List.take_left]
theorem Ev.cut {m m' : M} {H H' : Hp} (e : Ev m H m' H') : Ev m H m H' := ⟨⟨[], by simp⟩, rfl, fun _ h => .inl h, e.keep, e.tup, e.frz⟩
theorem SR.cut {K : PySem.W.Frag} {m m' : M} {H : Hp} {S' : List O} {n : Nat} (s : SR C K m' H S') (hm : m'.cut n = m) (ok : (S'.take n).all (okO n) = true) : SR C K m H (S'.take n) := by
  subst hm
  refine ⟨s.nd.sublist (List.take_sublist _ _), by show (m'.l.take n).length = _; simp [s.len], fun j a o h1 h2 => ?_, s.hid, fun a ha z => s.apt a ha (List.mem_of_mem_take z)⟩
  have h1 : (m'.l.take n)[j]? = some a := h1
  have hj : j < n := by
    have := (List.getElem?_eq_some_iff.mp h1).1
    simp at this; omega
  rw [List.getElem?_take_of_lt hj] at h1
  have hmem := List.mem_of_getElem? h2
  rw [List.getElem?_take_of_lt hj] at h2
  have k := List.all_eq_true.mp ok o hmem
  have r := s.obj j a o h1 h2
  cases o with
  | lst ds => obtain ⟨xs, h3, h4⟩ := r; exact ⟨xs, h3, h4.cut' k⟩
  | dic ks => obtain ⟨xs, h3, h4, h5⟩ := r; exact ⟨xs, h3, h4, h5.cut' (by rw [← okKs_eq]; exact k)⟩
  | ins fs => obtain ⟨dx, gs, h3, h4, h5⟩ := r; exact ⟨dx, gs, h3, h4, h5.cut' k⟩
theorem s_gc {K : PySem.W.Frag} {m m' : M} {H H' : Hp} {S S' S2 : List O} {v : V} {d d2 : D} (e : Ev m H m' H') (s0 : SR C K m H S) (s : SR C K m' H' S') (r : Rp K m' H' v d) (h : gcF S.length (d, S') = some (d2, S2)) : ∃ m2, Ev m H m2 H' ∧ SR C K m2 H' S2 ∧ Rp K m2 H' v d2 := by
  have hc := cut_of e s0.len
  unfold gcF at h
  split at h
  · cases h
    exact ⟨m', e, s, r⟩
  refine ⟨m, e.cut, ?_⟩
  split at h
  · rename_i ok
    have s' := s.cut hc ok
    split at h
    · rename_i j hk
      have hk : d = .ref j := hk
      subst hk
      split at h
      · rename_i hj
        cases h
        refine ⟨s', ?_⟩
        rw [← hc]
        exact r.cut (by simp [okD, hj])
      · rename_i hj
        have nin : ∀ a, m'.l[j]? = some a → ¬ m.has a := fun a ha z => by
          rcases z with z | z
          · obtain ⟨i, hi, ei⟩ := List.mem_iff_getElem.mp z
            have h1 : m.l[i]? = some a := by rw [List.getElem?_eq_getElem hi, ei]
            have h2 := e.at h1
            have := nd_ix s.nd h2 ha
            rw [← s0.len] at hj
            omega
          · refine s.apt a ?_ (List.mem_of_getElem? ha)
            rw [e.hid]; exact z
        cases r with
        | @ref a _ hn =>
          split at h
          · rename_i xs hs
            split at h
            · rename_i k
              cases h
              obtain ⟨vs, h1, h2⟩ := s.obj _ _ _ hn hs
              refine ⟨s', .lst h1 (nin a hn) ?_⟩
              rw [← hc]
              exact h2.cut' k
            · cases h
          · rename_i xs hs
            split at h
            · rename_i k
              cases h
              obtain ⟨vs, h1, h2, h3⟩ := s.obj _ _ _ hn hs
              refine ⟨s', .dic h1 (nin a hn) h2 ?_⟩
              rw [← hc]
              exact h3.cut' (by rw [← okKs_eq]; exact k)
            · cases h
          · cases h
    · split at h
      · rename_i k
        cases h
        refine ⟨s', ?_⟩
        rw [← hc]
        exact r.cut k
      · cases h
  · cases h

/-- a def's function from its body's -/
def fnD (n : Nat) (b : B) : Fn := fun ds S => (b (ds.map some ++ List.replicate (n - ds.length) none) S).bind fun o => match o with
  | .rt d S' => some (d, S')
  | .nx _ S' => some (.non, S')
  | _ => none
theorem er_start {K : PySem.W.Frag} {m : M} {H : Hp} {N : List Str} {vs : List V} {ds : List D} (r : RpAll K m H vs ds) : ER K m H (L2.start N vs) (ds.map some ++ List.replicate (N.length - ds.length) none) := by
  refine ⟨by simp [L2.start, r.length], fun i d h => ?_⟩
  unfold L2.start
  rw [r.length]
  by_cases hi : i < ds.length
  · rw [List.getElem?_append_left (by simpa using hi)] at h
    rw [List.getElem?_append_left (by simpa [r.length] using hi)]
    rw [List.getElem?_map] at h ⊢
    cases q : ds[i]? with
    | none => rw [q] at h; cases h
    | some d' =>
      rw [q] at h
      cases h
      obtain ⟨v, h1, h2⟩ := r.get q
      exact ⟨v, by rw [h1]; rfl, h2⟩
  · rw [List.getElem?_append_right (by simpa using hi)] at h
    have := List.mem_of_getElem? h
    have := (List.mem_replicate.mp this).2
    cases this
end
section
variable {P : Program} {w : World} {K : PySem.W.Frag} {mg : Str → Option Value} {base : Heap}
theorem fn_ok {C : Addr} {x qual : Str} {st : Stmt} {f : Addr} {fd : FuncData} {N ps : List Str} {k n : Nat} {b : B} (F : L2.Fun K x qual st f fd) (S : FnScope N ps (defScope st)) (hn : n = ps.length)
    (h : ∀ (cdv : Value) (A : Around) (outer : List Env) (s : Shared) (H : Hp) (E : XK), Room k (A.deeper (envOfC qual (defScope st) s.heap.objs.size f cdv)) → ∃ t, RSs (cxOf CX0 P w K mg base N qual (defScope st) f cdv A outer s H E).nox C (defBody st) t b) :
    FnOk P w K mg base CX0 (k + 1) f fd ps (spF C K n (fnD N.length b)) := by
  refine F.ok S (fun vs H Q E q => hn ▸ q.1) fun cdv A outer s H vs Q E hr q => ?_
  obtain ⟨t, ht⟩ := h cdv A outer s H E hr
  obtain ⟨hl, m, S0, ds, d, S', r, sr, hf, q⟩ := q
  refine ⟨t, ht.p, ?_⟩
  unfold fnD at hf
  obtain ⟨o, q1, hf⟩ := Option.bind_eq_some_iff.mp hf
  refine ht.s m _ H _ S0 o _ (er_start r) sr q1 ?_
  split at hf
  · cases hf; exact fun v m' H' e' s' r' => q v m' H' e' s' r'
  · cases hf; exact fun m' σ' H' e' er' s' => q .non m' H' e' s' .non
  · cases hf
theorem _root_.Cb.FnOk.gc {C f : Addr} {fd : FuncData} {ps : List Str} {k n : Nat} {F : Fn} (h : FnOk P w K mg base CX0 k f fd ps (spF C K n F)) : FnOk P w K mg base CX0 k f fd ps (spF C K n (gcFn F)) := by
  refine h.imp fun vs H Q E q => ?_
  obtain ⟨hl, m, S, ds, d, S', r, sr, hf, q⟩ := q
  unfold gcFn at hf
  obtain ⟨⟨d1, S1⟩, q1, hf⟩ := Option.bind_eq_some_iff.mp hf
  refine ⟨hl, m, S, ds, d1, S1, r, sr, q1, fun v m' H' e' s' r' => ?_⟩
  obtain ⟨m2, e2, s2, r2⟩ := s_gc e' sr s' r' hf
  exact q v m2 H' e2 s2 r2
theorem fn_none {C f : Addr} {fd : FuncData} {ps : List Str} {n : Nat} {k : Nat} : FnOk P w K mg base CX0 k f fd ps (spF C K n fun _ _ => none) := by
  have no : ∀ vs H Q E, ¬ spF C K n (fun _ _ => none) vs H Q E := fun vs H Q E ⟨_, _, _, _, _, _, _, _, h, _⟩ => nomatch h
  exact ⟨fun vs H Q E h => absurd h (no vs H Q E), fun A outer s H args us vs Q E _ _ _ _ h => absurd h (no vs H Q E)⟩
end
end Cb
namespace Cb
open PySem PySem.Spec PyProof.Rows L2

section
variable {X : Cx} {C : Addr} {pos : Pos} {a b c e tg iter : Expr} {es : List Expr} {ta tb tc te : TE} {tA : TA} {fa fb fc f : E} {g : A}
/-! ### in, not in: flat things -/
def flatD : D → Bool
  | .non | .bl _ | .int _ | .str _ => true
  | _ => false
def eqF : D → D → Bool
  | .non, .non => true
  | .bl a, .bl b => a == b
  | .bl a, .int b => (if a then 1 else 0) == b
  | .int a, .bl b => a == (if b then 1 else 0)
  | .int a, .int b => a == b
  | .str a, .str b => a == b
  | _, _ => false
def seqA (S : List O) : D → Option (List D)
  | .tup xs => some xs
  | d => seqL S d
theorem rp_seqA {K : PySem.W.Frag} {m : M} {H : Hp} {S : List O} {v : V} {d : D} {ds : List D} (s : SR C K m H S) (r : Rp K m H v d) (h : seqA S d = some ds) : ∃ a xs, v = .ref a ∧ (SqL K H a xs ∨ SqT K H a xs) ∧ RpAll K m H xs ds := by
  unfold seqA at h
  split at h
  · cases h
    cases r with
    | tup h1 r => exact ⟨_, _, rfl, .inr h1, r⟩
  · obtain ⟨a, xs, e, h1, h2⟩ := rp_seqL s r h
    exact ⟨a, xs, e, .inl h1, h2⟩
def dIn (neg : Bool) : Op2 := fun x y S => (seqA S y).bind fun ys => if flatD x = true ∧ ys.all flatD = true then some (.bl (if neg then !(ys.any fun z => eqF z x) else ys.any fun z => eqF z x)) else none
theorem Rp.flat {K : PySem.W.Frag} {m : M} {H : Hp} {v : V} {d : D} (r : Rp K m H v d) (h : flatD d = true) : flatV v = true := by
  cases r <;> first | rfl | cases h
theorem Rp.eqF {K : PySem.W.Frag} {m : M} {H : Hp} {v w : V} {d e : D} (r : Rp K m H v d) (q : Rp K m H w e) (h : flatD d = true) (h' : flatD e = true) : eqV v w = Cb.eqF d e := by
  cases r <;> cases q <;> first | rfl | (simp [flatD] at h; done) | (simp [flatD] at h'; done)
theorem RpAll.flat {K : PySem.W.Frag} {m : M} {H : Hp} : ∀ {vs : List V} {ds : List D}, RpAll K m H vs ds → ds.all flatD = true → vs.all flatV = true
  | _, _, .nil, _ => rfl
  | _, _, .cons r rs, h => by
    rw [List.all_cons, Bool.and_eq_true] at h ⊢
    exact ⟨r.flat h.1, RpAll.flat rs h.2⟩
theorem RpAll.anyF {K : PySem.W.Frag} {m : M} {H : Hp} {v : V} {d : D} (r : Rp K m H v d) (h : flatD d = true) : ∀ {vs : List V} {ds : List D}, RpAll K m H vs ds → ds.all flatD = true → inV v vs = ds.any fun z => Cb.eqF z d
  | _, _, .nil, _ => rfl
  | _, _, .cons q rs, h2 => by
    rw [List.all_cons, Bool.and_eq_true] at h2
    have ih := RpAll.anyF r h rs h2.2
    unfold inV at ih ⊢
    rw [List.any_cons, List.any_cons, ih, q.eqF r h2.1 h]
theorem s_in {K : PySem.W.Frag} {neg : Bool} : R2Sem C K (rIn K neg) (dIn neg) := fun m H x y d1 d2 S d Q r1 r2 sr hf q => by
  unfold dIn at hf
  obtain ⟨ys, h1, hf⟩ := Option.bind_eq_some_iff.mp hf
  split at hf
  · rename_i hc
    cases hf
    obtain ⟨a, xs, e, h2, h3⟩ := rp_seqA sr r2 h1
    subst e
    refine ⟨a, xs, rfl, h2, r1.flat hc.1, h3.flat hc.2, ?_⟩
    rw [RpAll.anyF r1 hc.1 h3 hc.2]
    exact q _ m H .refl sr (.bl _)
  · cases hf
theorem rc_in (ha : RE X C a ta fa) (hb : RE X C b tb fb) (hm : behindInMarks .In b = false := by rfl) : RC X C (.Compare a [.In] [b] pos) (tOp (rIn X.K false) ta tb) (eOp (dIn false) fa fb) := rc_op op_in_seq s_in ha hb hm
theorem rc_notin (ha : RE X C a ta fa) (hb : RE X C b tb fb) (hm : behindInMarks .NotIn b = false := by rfl) : RC X C (.Compare a [.NotIn] [b] pos) (tOp (rIn X.K true) ta tb) (eOp (dIn true) fa fb) := rc_op op_notIn_seq s_in ha hb hm
/-- one sign not in a text -/
def dNotSign : Op2 := fun x y _ => match x, y with
  | .str c, .str z => if c.cps.size = 1 then some (.bl (!decide (c.cps.getD 0 0 ∈ z.cps.toList))) else none
  | _, _ => none
theorem one_sign {c : Str} (h : c.cps.size = 1) : c = ⟨#[c.cps.getD 0 0]⟩ := by
  obtain ⟨cps⟩ := c
  obtain ⟨l⟩ := cps
  match l, h with
  | [x], _ => rfl
theorem s_notSign {K : PySem.W.Frag} : R2Sem C K (fun x y H Q => ∃ (c : Nat) (z : Str), x = .str ⟨#[c]⟩ ∧ y = .str z ∧ Q (.bl (!decide (c ∈ z.cps.toList))) H) dNotSign := fun m H x y d1 d2 S d Q r1 r2 sr hf q => by
  unfold dNotSign at hf
  split at hf
  · rename_i c z
    split at hf
    · rename_i h1
      cases hf; cases r1; cases r2
      exact ⟨c.cps.getD 0 0, z, by rw [← one_sign h1], rfl, q _ m H .refl sr (.bl _)⟩
    · cases hf
  · cases hf
theorem rc_notsign (ha : RE X C a ta fa) (hb : RE X C b tb fb) (hm : behindInMarks .NotIn b = false := by rfl) : RC X C (.Compare a [.NotIn] [b] pos) (tOp (fun x y H Q => ∃ (c : Nat) (z : Str), x = .str ⟨#[c]⟩ ∧ y = .str z ∧ Q (.bl (!decide (c ∈ z.cps.toList))) H) ta tb) (eOp dNotSign fa fb) := rc_op op_notIn_sign s_notSign ha hb hm

/-! ### methods of texts -/
def eS1 (k : Op2) (fo fe : E) : E := fun δ S => (fo δ S).bind fun o => match o.1 with
  | .str _ => (fe δ o.2).bind fun v => (k o.1 v.1 v.2).bind fun d => some (d, v.2)
  | _ => none
def MSem (C : Addr) (K : PySem.W.Frag) (r : V → List V → Hp → VK → Prop) (k : Op2) : Prop := ∀ m H x y d1 d2 S d Q, Rp K m H x d1 → Rp K m H y d2 → SR C K m H S → k d1 d2 S = some d →
  (∀ v m' H', Ev m H m' H' → SR C K m' H' S → Rp K m' H' v d → Q v H') → r x [y] H Q
theorem s_S1 {K : PySem.W.Frag} {r : V → List V → Hp → VK → Prop} {k : Op2} (hk : MSem C K r k) (ho : ESem C K ta fa) (he : ESem C K te f) : ESem C K (tM1 r ta te) (eS1 k fa f) := fun m σ H δ S d S' Q er sr hf q => by
  unfold eS1 at hf
  obtain ⟨⟨d1, S1⟩, q1, hf⟩ := Option.bind_eq_some_iff.mp hf
  split at hf
  · rename_i z hz
    have hz : d1 = .str z := hz
    subst hz
    obtain ⟨⟨d2, S2⟩, q2, hf⟩ := Option.bind_eq_some_iff.mp hf
    obtain ⟨d3, q3, hf⟩ := Option.bind_eq_some_iff.mp hf
    cases hf
    refine ho m σ H δ S _ S1 _ er sr q1 fun v m1 H1 e1 s1 r1 => ?_
    cases r1
    refine ⟨⟨z, rfl⟩, he m1 σ H1 δ S1 d2 S2 _ (er.ev e1) s1 q2 fun u m2 H2 e2 s2 r2 => ?_⟩
    exact hk m2 H2 _ u _ d2 S2 _ Q (.str z) r2 s2 q3 fun v m3 H3 e3 s3 r3 => q v m3 H3 (e1.trans (e2.trans e3)) s3 r3
  · cases hf
def strsD : List D → Option (List Str)
  | [] => some []
  | .str x :: ds => (strsD ds).bind fun xs => some (x :: xs)
  | _ => none
theorem strsD_eq : ∀ {ds : List D} {xs : List Str}, strsD ds = some xs → ds = xs.map D.str
  | [], xs, h => by cases h; rfl
  | d :: ds, xs, h => by
    cases d with
    | str x =>
      obtain ⟨ys, h1, h2⟩ := Option.bind_eq_some_iff.mp (show (strsD ds).bind (fun xs => some (x :: xs)) = some xs from h)
      cases h2
      rw [strsD_eq h1]
      rfl
    | _ => cases h
theorem RpAll.strs' {K : PySem.W.Frag} {m : M} {H : Hp} : ∀ {vs : List V} {xs : List Str}, RpAll K m H vs (xs.map D.str) → vs = xs.map V.str
  | [], [], _ => rfl
  | [], _ :: _, h => nomatch h
  | _ :: _, [], h => nomatch h
  | v :: vs, x :: xs, .cons r rs => by
    cases r
    rw [RpAll.strs' rs]
    rfl
def dJoin : Op2 := fun x y S => match x with
  | .str a => (seqA S y).bind fun ds => (strsD ds).bind fun xs => if (xs.map (·.length)).sum + xs.length * a.length ≤ 16777216 then some (.str (Txt.join a xs)) else none
  | _ => none
def rJoin (K : PySem.W.Frag) : V → List V → Hp → VK → Prop := fun x xs H Q => ∃ a p, ∃ ys : List Str, x = .str a ∧ xs = [.ref p] ∧ (SqL K H p (ys.map V.str) ∨ SqT K H p (ys.map V.str)) ∧
  (ys.map (·.length)).sum + ys.length * a.length ≤ 16777216 ∧ Q (.str (Txt.join a ys)) H
theorem s_join {K : PySem.W.Frag} : MSem C K (rJoin K) dJoin := fun m H x y d1 d2 S d Q r1 r2 sr hf q => by
  unfold dJoin at hf
  split at hf
  · obtain ⟨ds, h1, hf⟩ := Option.bind_eq_some_iff.mp hf
    obtain ⟨xs, h2, hf⟩ := Option.bind_eq_some_iff.mp hf
    split at hf
    · rename_i hl
      cases hf; cases r1
      obtain ⟨p, vs, e, h3, h4⟩ := rp_seqA sr r2 h1
      subst e
      have := strsD_eq h2
      subst this
      have := h4.strs'
      subst this
      exact ⟨_, p, xs, rfl, rfl, h3, hl, q _ m H .refl sr (.str _)⟩
    · cases hf
  · cases hf
theorem re_join {apos : Pos} (ho : RE X C a ta fa) (he : RE X C e te f) (hs : starEach [e] X.env = [(false, eval e X.env)] := by rfl) (hbase : attributeBase a "join" X.env (eval a X.env) = eval a X.env := by rfl) (hline : (apos.endLine == pos.line) = true := by rfl) :
    RE X C (.Call (.Attribute a "join" apos) [e] [] pos) (tM1 (rJoin X.K) ta te) (eS1 dJoin fa f) := ⟨pe_join ho.p he.p hs hbase hline, s_S1 s_join ho.s he.s⟩
def dStarts : Op2 := fun x y _ => match x, y with | .str a, .str b => some (.bl (Txt.startswith a b)) | _, _ => none
def dEnds : Op2 := fun x y _ => match x, y with | .str a, .str b => some (.bl (Txt.endswith a b)) | _, _ => none
theorem s_starts {K : PySem.W.Frag} : MSem C K (fun x xs H Q => ∃ a b, x = .str a ∧ xs = [.str b] ∧ Q (.bl (Txt.startswith a b)) H) dStarts := fun m H x y d1 d2 S d Q r1 r2 sr hf q => by
  unfold dStarts at hf
  split at hf
  · cases hf; cases r1; cases r2
    exact ⟨_, _, rfl, rfl, q _ m H .refl sr (.bl _)⟩
  · cases hf
theorem s_ends {K : PySem.W.Frag} : MSem C K (fun x xs H Q => ∃ a b, x = .str a ∧ xs = [.str b] ∧ Q (.bl (Txt.endswith a b)) H) dEnds := fun m H x y d1 d2 S d Q r1 r2 sr hf q => by
  unfold dEnds at hf
  split at hf
  · cases hf; cases r1; cases r2
    exact ⟨_, _, rfl, rfl, q _ m H .refl sr (.bl _)⟩
  · cases hf
theorem re_starts {apos : Pos} (ho : RE X C a ta fa) (he : RE X C e te f) (hs : starEach [e] X.env = [(false, eval e X.env)] := by rfl) (hbase : attributeBase a "startswith" X.env (eval a X.env) = eval a X.env := by rfl) (hline : (apos.endLine == pos.line) = true := by rfl) :
    RE X C (.Call (.Attribute a "startswith" apos) [e] [] pos) (tM1 (fun x xs H Q => ∃ a b, x = .str a ∧ xs = [.str b] ∧ Q (.bl (Txt.startswith a b)) H) ta te) (eS1 dStarts fa f) := ⟨pe_m1 PySem.F.slot_str_startswith PySem.F.type_str_startswith mt_startswith ho.p he.p hs hbase hline, s_S1 s_starts ho.s he.s⟩
theorem re_ends {apos : Pos} (ho : RE X C a ta fa) (he : RE X C e te f) (hs : starEach [e] X.env = [(false, eval e X.env)] := by rfl) (hbase : attributeBase a "endswith" X.env (eval a X.env) = eval a X.env := by rfl) (hline : (apos.endLine == pos.line) = true := by rfl) :
    RE X C (.Call (.Attribute a "endswith" apos) [e] [] pos) (tM1 (fun x xs H Q => ∃ a b, x = .str a ∧ xs = [.str b] ∧ Q (.bl (Txt.endswith a b)) H) ta te) (eS1 dEnds fa f) := ⟨pe_m1 PySem.F.slot_str_endswith PySem.F.type_str_endswith mt_endswith ho.p he.p hs hbase hline, s_S1 s_ends ho.s he.s⟩
end
theorem sqF_of {K : PySem.W.Frag} {H : Hp} {a : Addr} {xs : List V} (ho : Only H) (h : SqL K H a xs) : SqF K H a xs := by
  rcases h with (h | ⟨o, h⟩) | h
  · rcases ho a with z | ⟨o, ys, z⟩
    · rw [h] at z; cases z
    · rw [h] at z; cases z
  · exact .inl ⟨o, h⟩
  · exact .inr h
end Cb
namespace Cb
open PySem PySem.Spec PyProof.Rows L2

/-! ### enumerate(tuple) -/
def IteT (K : PySem.W.Frag) (a : Addr) : It :=
  ⟨fun i H => ∃ (xs : List V) (x : V), SqT K H a xs ∧ xs[i]? = some x, fun i H v H' => ∃ T x, v = .ref T ∧ H T = none ∧ H' = upd H T (.tup [.int (i : Nat), x]) ∧ ∀ xs, SqT K H a xs → xs[i]? = some x, fun i H => ∃ xs : List V, SqT K H a xs ∧ xs.length = i⟩
theorem enum_apart {h : Heap} {e it a : Addr} {c : Int} {old : Value} {its : Array Value} (he : IsEnum h e it c old) (p : h.IsTuple a its) : e ≠ a := by
  intro z
  subst z
  obtain ⟨o, ho, hc, _⟩ := p
  have he' : h.get? e = some _ := he
  rw [ho] at he'
  have := Option.some.inj he'
  rw [this] at hc
  have q : Value.type "enumerate" = Value.type "tuple" := hc
  simp at q
theorem tit_apart {h : Heap} {it a : Addr} {i : Nat} {its : Array Value} (hi : h.IsTupleIter it a i) (p : h.IsTuple a its) : a ≠ it := by
  intro z
  subst z
  obtain ⟨o, ho, hc, _⟩ := p
  obtain ⟨o', ho', hc', _⟩ := hi
  rw [ho] at ho'
  cases ho'
  rw [hc] at hc'
  simp at hc'
theorem turn_enumT {P : Program} {w : World} {K : PySem.W.Frag} {elts : List Expr} {kk : Nat} {tpos : Pos} (a e it : Addr) :
    Turn P w K (.Tuple elts kk tpos) (IteT K a) [e, it] e (fun i h => (∃ old, IsEnum h e it ((i : Nat) : Int) old) ∧ h.IsTupleIter it a i ∧ e ≠ it) where
  mem := by simp
  obj := fun i h st b hb => by
    obtain ⟨⟨old, he⟩, ⟨o, ho, hc, hd⟩, _⟩ := st
    have e' : b = e ∨ b = it := by simpa using hb
    rcases e' with z | z
    · rw [z]; exact ⟨_, he, fun v q => nomatch q⟩
    · rw [z]; exact ⟨o, ho, fun v q => by rw [hd] at q; cases q⟩
  keep := fun i h h' st k => let ⟨⟨old, he⟩, hi, hne⟩ := st; ⟨⟨old, k e (by simp) _ he⟩, hi.at fun o q => k it (by simp) o q, hne⟩
  item := by
    intro X hP hw hK hc i pins s σ H E I hf st hg
    subst hP hw hK
    obtain ⟨⟨old, he⟩, hit, hne⟩ := st
    obtain ⟨xs, x, hq, hx⟩ := hg
    obtain ⟨its, rv, p, hz⟩ := I.tuple hq
    have p' : s.heap.IsTuple a its.toArray := p
    obtain ⟨u, hu, ru⟩ := rv.get hx
    have hel : e < s.heap.objs.size := Heap.lt_size he
    have hil : it < s.heap.objs.size := by obtain ⟨_, q, _⟩ := hit; exact Heap.lt_size q
    have hiu : i < its.length := (List.getElem?_eq_some_iff.mp hu).1
    have hea := enum_apart he p'
    have hai := tit_apart hit p'
    refine wpAny_pyNext_enum_itemD (Draws.tuple (A := X.A.in1) (I.ok.hd hc) it a hai its.toArray) he ⟨hit, p'⟩ (by simpa using hiu) hne (by simp only [List.mem_cons, List.not_mem_nil, or_false]; exact fun z => z.elim hne hea) fun y h' tk hy ho hit' hT hsz hk => ?_
    have hyu : y = u := by
      have hy : its.toArray[i]? = some y := hy
      rw [List.getElem?_toArray, hu] at hy
      exact (Option.some.inj hy).symm
    subst hyu
    refine ⟨_, rfl, wpAny_letOwnedTupleGo_enum (s := { s with heap := h', toks := tk + 1 }) ho fun h'' he' sb => ?_⟩
    have hT2 : h''.get? s.heap.objs.size = some { cls := .type "tuple", data := .seq #[.int i tk, y] } := (sb.2 _ (Nat.ne_of_gt hel)).trans hT
    have new : ObjOk X.prog X.w (upd H s.heap.objs.size (.tup [.int (i : Nat), x])) h'' s.heap.objs.size (.tup [.int (i : Nat), x]) :=
      ⟨by show 2 ≤ sizeLine; decide, [.int i tk, y], .cons ⟨_, rfl⟩ (.cons ru .nil), ⟨_, hT2, rfl, _, rfl⟩⟩
    have I1 : Inv X pins σ (upd H s.heap.objs.size (.tup [.int (i : Nat), x])) { s with heap := h'', toks := tk + 1 } :=
      I.turnedNew (ch := [e, it]) (fun b ob hb q => (sb.2 b (fun z => hb (by simp [z]))).trans (hk b ob (fun z => hb (by simp [z])) (fun z => hb (by simp [z])) q)) hf (Nat.le_refl _) new
    refine ⟨.ref s.heap.objs.size, _, I1, rfl, ⟨_, x, rfl, I.hok.fresh (Nat.le_refl _), rfl, fun ys hy => by rw [I.tuple_inj hy hq]; exact hx⟩, ⟨⟨y, ?_⟩, hit'.1.at fun o q => (sb.2 it (Ne.symm hne)).trans q, hne⟩, fun b hb => ?_⟩
    · have e1 : ((i + 1 : Nat) : Int) = (i : Int) + 1 := by omega
      rw [e1]; exact he'
    · have hb' : b < s.heap.objs.size := by
        have e' : b = e ∨ b = it := by simpa using hb
        rcases e' with z | z
        · rw [z]; exact hel
        · rw [z]; exact hil
      rw [upd_ne (Nat.ne_of_lt hb')]
      exact (hf b hb).1
  done := by
    intro X hP hw hK hc i pins s σ H E I hf st hg
    subst hP hw hK
    obtain ⟨⟨old, he⟩, hit, hne⟩ := st
    obtain ⟨xs, hq, hx⟩ := hg
    obtain ⟨its, rv, p, hz⟩ := I.tuple hq
    have p' : s.heap.IsTuple a its.toArray := p
    obtain ⟨f0, f1, f2, f3, f4, f5⟩ := hf it (by simp)
    have hl := rv.length
    have hai := tit_apart hit p'
    have hn : i = its.toArray.size := by simp; omega
    subst hn
    exact wpAny_pyNext_enum_endD (Draws.tuple (A := X.A.in1) (I.ok.hd hc) it a hai its.toArray) he ⟨hit, p'⟩ fun h' eb => ⟨rfl, I.turned (t' := s.toks) (fun b o hb q => eb b o hb q) f0 f1 f3 f4 f5⟩
  self := fun A i s Q E st h => let ⟨⟨_, he⟩, _⟩ := st; wpAny_pyIter_enum he h
theorem meets_enumerate_newB1 {v : Value} {o : Obj} {H : Heap → Prop} (B : Begins v o H) :
    Meets (Builtin.«enumerate.__new__» ⟨[.type "enumerate", v], []⟩) (fun _ R s => H s.heap ∧
      R (.ok (.ret (.ref (s.heap.push o).objs.size))) { s with heap := (s.heap.push o).push { cls := .type "enumerate", data := .fields #[.none, .bool false, .ref s.heap.objs.size, rawInt 0, .none, .none] } }) :=
  .of_wp fun prog w A R s h => by
    obtain ⟨hp, g, d, tk, os⟩ := s; obtain ⟨h1, h⟩ := h
    have hsub := sub_enumerate
    have q1 : ∀ {A' : Around} {E : Value → Shared → Prop} {Q : Value → Shared → Prop}, Q (.ref hp.objs.size) ⟨hp.push o, g, d, tk, os⟩ → wpAny (model prog w) A' (pyIter v) Q E ⟨hp, g, d, tk, os⟩ :=
      fun q => B.iter prog w _ _ ⟨hp, g, d, tk, os⟩ _ h1 q
    wp_walk using q1
    refine wpAny_stack_any fun st => wpAny_pure ?_
    split
    · rename_i c _ _ _ _ _
      cases (c == Value.type "enumerate")
      · wp_walk using q1
        exact ⟨_, rfl, h⟩
      · wp_walk using q1
        exact ⟨_, rfl, h⟩
    · wp_walk using q1
      exact ⟨_, rfl, h⟩
theorem enum_begins1 {prog : Program} {w : World} {A : Around} {E : Value → Shared → Prop} {s : Shared} {v : Value} {o : Obj} {H : Heap → Prop} {Q : Value → Shared → Prop} (B : Begins v o H) (h1 : H s.heap)
    (h : ∀ h', IsEnum h' (s.heap.objs.size + 1) s.heap.objs.size 0 .none → h'.get? s.heap.objs.size = some o → h'.objs.size = s.heap.objs.size + 2 →
      (∀ b o, s.heap.get? b = some o → h'.get? b = some o) → Q (.ref (s.heap.objs.size + 1)) { s with heap := h' }) :
    wpAny (model prog w) A (call (.type "enumerate") [v]) Q E s := by
  refine callType_new F.called_enumerate (by decide) (F.typeCall_enumerate_1 _) (F.newCall_enumerate_1 _) (fun obj => F.args_object_init_2 obj _) F.entry_enumerate_new
    (meets_enumerate_newB1 B) ⟨h1, ?_⟩
  have hz : (s.heap.push o).objs.size = s.heap.objs.size + 1 := Heap.size_push ..
  show _ ∧ _
  rw [hz]
  have he : IsEnum ((s.heap.push o).push { cls := .type "enumerate", data := .fields #[.none, .bool false, .ref s.heap.objs.size, rawInt 0, .none, .none] }) (s.heap.objs.size + 1) s.heap.objs.size 0 .none := by
    have := Heap.get?_push_size (s.heap.push o) (o := { cls := .type "enumerate", data := .fields #[.none, .bool false, .ref s.heap.objs.size, rawInt 0, .none, .none] }) rfl
    rw [hz] at this; exact this
  refine ⟨⟨_, he, rfl⟩, h _ he (Heap.get?_push_of_some _ (Heap.get?_push_size _ B.free)) (by rw [Heap.size_push, hz]) fun b o x => Heap.get?_push_of_some _ (Heap.get?_push_of_some _ x)⟩
def iEnumT (K : PySem.W.Frag) (ta : TA) : TI := fun σ H R => ta σ H fun vs H1 => ∃ a xs, vs = [.ref a] ∧ SqT K H1 a xs ∧ R (IteT K a) H1
theorem pi_enumT {X : Cx} {e : Expr} {ta : TA} {p pos tpos : Pos} {elts : List Expr} {kk : Nat} (hg : Gl X "enumerate") (hm : X.mg "enumerate" = none) (ha : PA X [e] ta) (hs : starEach [e] X.env = [(false, eval e X.env)] := by rfl) :
    PI X (.Tuple elts kk tpos) (.Call (.Name "enumerate" p) [e] [] pos) (iEnumT X.K ta) := by
  refine ⟨fun pins s σ H R I h => ?_⟩
  refine Call_ (ld_blt I hg hm boot_enumerate (PyProof.Rows.callWith_type1 (thn (ha.run pos pins s σ H _ I h) fun us s1 ⟨vs, H1, I1, r1, q1⟩ => ?_) hs rfl))
  obtain ⟨a, xs, ex, hq, q⟩ := q1
  subst ex
  cases r1 with
  | cons r rr =>
    cases rr
    cases r
    obtain ⟨its, rv, p', hz⟩ := I1.tuple hq
    refine enum_begins1 (begins_tuple a its.toArray) p' fun h' he hit hsz hk => wpAny_pyIter_enum he ?_
    have I2 : Inv X pins σ H1 { s1 with heap := h' } := I1.kept (t' := s1.toks) hk
    refine ⟨s1.heap.objs.size + 1, [s1.heap.objs.size + 1, s1.heap.objs.size], _, _, H1, rfl, I2, turn_enumT a (s1.heap.objs.size + 1) s1.heap.objs.size, ⟨⟨.none, he⟩, ⟨_, hit, rfl, rfl⟩, Nat.succ_ne_self _⟩, fun b hb => ?_, q⟩
    have e' : b = s1.heap.objs.size + 1 ∨ b = s1.heap.objs.size := by simpa using hb
    have hle : s1.heap.objs.size ≤ b := by
      rcases e' with z | z
      · rw [z]; exact Nat.le_add_right _ _
      · rw [z]; exact Nat.le_refl _
    exact I1.fpOk hle (I1.hok.fresh hle)
section
variable {X : Cx} {C : Addr} {pos : Pos} {a b c e tg iter : Expr} {es : List Expr} {ta tb tc te : TE} {tA : TA} {fa fb fc f : E} {g : A}
def enumD : Nat → List D → List D
  | _, [] => []
  | i, d :: ds => .tup [.int (i : Nat), d] :: enumD (i + 1) ds
theorem enumD_len : ∀ (k : Nat) (ds : List D), (enumD k ds).length = ds.length
  | _, [] => rfl
  | k, d :: ds => by simp [enumD, enumD_len (k + 1) ds]
theorem enumD_get : ∀ (k : Nat) (ds : List D) (i : Nat), (enumD k ds)[i]? = (ds[i]?).map fun d => D.tup [.int ((k + i : Nat) : Int), d]
  | _, [], _ => by simp [enumD]
  | k, d :: ds, 0 => by simp [enumD]
  | k, d :: ds, i + 1 => by
    simp only [enumD, List.getElem?_cons_succ, enumD_get (k + 1) ds i]
    have : k + 1 + i = k + (i + 1) := by omega
    rw [this]
def iEnumD (f : E) : A := fun δ S => (f δ S).bind fun p => match p.1 with | .tup ds => some (enumD 0 ds, p.2) | _ => none
theorem ri_enum {elts : List Expr} {kk : Nat} {tpos p : Pos} (hg : Gl X "enumerate") (hm : X.mg "enumerate" = none) (he : RE X C e te f) (hs : starEach [e] X.env = [(false, eval e X.env)] := by rfl) : RI X C (.Tuple elts kk tpos) (.Call (.Name "enumerate" p) [e] [] pos) (iEnumT X.K (tCons te tNil)) (iEnumD f) :=
  ⟨pi_enumT hg hm (pa_cons he.p pa_nil hs) hs, fun m σ H δ S items S' R er sr hf q => by
    unfold iEnumD at hf
    obtain ⟨⟨d1, S1⟩, q1, hf⟩ := Option.bind_eq_some_iff.mp hf
    split at hf
    · rename_i ds hk
      have hk : d1 = .tup ds := hk
      subst hk
      cases hf
      refine he.s m σ H δ S _ S1 _ er sr q1 fun v m1 H1 e1 s1 r1 => ?_
      cases r1 with
      | @tup a xs _ h4 h5 =>
        refine ⟨a, xs, rfl, h4, q _ m1 H1 e1 s1 fun m2 H2 S2 e2 s2 => ?_⟩
        have hl := h5.length
        have hle := enumD_len 0 ds
        refine ⟨fun i hi => ?_, ⟨xs, e2.ev.sqT h4, by omega⟩, fun i d x H' hd y => ?_⟩
        · obtain ⟨x, hx⟩ := lt_get (l := xs) (i := i) (by omega)
          exact ⟨xs, x, e2.ev.sqT h4, hx⟩
        · obtain ⟨T, x', ev, hT, eH, y2⟩ := y
          subst ev; subst eH
          rw [enumD_get] at hd
          cases hdd : ds[i]? with
          | none => rw [hdd] at hd; cases hd
          | some d0 =>
            rw [hdd] at hd
            cases hd
            obtain ⟨v, hv, rv⟩ := h5.get hdd
            have := y2 xs (e2.ev.sqT h4)
            rw [hv] at this
            cases this
            refine ⟨.lay hT, s2.lay hT, .tup (.of upd_same) (.cons ?_ (.cons ((rv.evH e2).ev (.lay hT)) .nil))⟩
            have : (0 + i : Nat) = i := by omega
            rw [this]
            exact .int _
    · cases hf⟩
end
end Cb
namespace Cb
open PySem PySem.Spec PyProof.Rows L2

/-! ## dicts -/
def dK : D → Option Key
  | .int i => some (.inl i)
  | .str x => some (.inr x)
  | _ => none
def valD (ks : List (Key × D)) (k : Key) : Option D := (ks.find? fun kv => decide (kv.1 = k)).map (·.2)
def putD (ks : List (Key × D)) (k : Key) (d : D) : List (Key × D) :=
  if (ks.any fun kv => decide (kv.1 = k)) = true then ks.map (fun kv => if kv.1 = k then (kv.1, d) else kv) else ks ++ [(k, d)]
def mergeD (ks more : List (Key × D)) : List (Key × D) := more.foldl (fun acc kv => putD acc kv.1 kv.2) ks
theorem rp_key {K : PySem.W.Frag} {m : M} {H : Hp} {v : V} {d : D} {k : Key} (r : Rp K m H v d) (h : dK d = some k) : v = kV k := by
  unfold dK at h
  split at h
  · cases h; cases r; rfl
  · cases h; cases r; rfl
  · cases h
inductive DL (K : PySem.W.Frag) (m : M) (H : Hp) : List (Key × V) → List (Key × D) → Prop
  | nil : DL K m H [] []
  | cons {k : Key} {v : V} {d : D} {kvs : List (Key × V)} {ks : List (Key × D)} : Rp K m H v d → DL K m H kvs ks → DL K m H ((k, v) :: kvs) ((k, d) :: ks)
theorem DL.of {K : PySem.W.Frag} {m : M} {H : Hp} : ∀ {kvs : List (Key × V)} {ks : List (Key × D)}, kvs.map (·.1) = ks.map (·.1) → RpAll K m H (kvs.map (·.2)) (ks.map (·.2)) → DL K m H kvs ks
  | [], [], _, _ => .nil
  | [], _ :: _, h, _ => by simp at h
  | _ :: _, [], h, _ => by simp at h
  | (k, v) :: kvs, (k', d) :: ks, h, r => by
    simp only [List.map_cons, List.cons.injEq] at h r
    obtain ⟨h1, h2⟩ := h
    have h1 : k = k' := h1
    subst h1
    cases r with
    | cons r1 r2 => exact .cons r1 (DL.of h2 r2)
theorem DL.keys {K : PySem.W.Frag} {m : M} {H : Hp} {kvs : List (Key × V)} {ks : List (Key × D)} (r : DL K m H kvs ks) : kvs.map (·.1) = ks.map (·.1) := by
  induction r with
  | nil => rfl
  | cons r rs ih => simp [ih]
theorem DL.vals {K : PySem.W.Frag} {m : M} {H : Hp} {kvs : List (Key × V)} {ks : List (Key × D)} (r : DL K m H kvs ks) : RpAll K m H (kvs.map (·.2)) (ks.map (·.2)) := by
  induction r with
  | nil => exact .nil
  | cons r rs ih => exact .cons r ih
theorem DL.length {K : PySem.W.Frag} {m : M} {H : Hp} {kvs : List (Key × V)} {ks : List (Key × D)} (r : DL K m H kvs ks) : kvs.length = ks.length := by
  induction r with
  | nil => rfl
  | cons r rs ih => simp [ih]
theorem DL.val {K : PySem.W.Frag} {m : M} {H : Hp} {kvs : List (Key × V)} {ks : List (Key × D)} (r : DL K m H kvs ks) (k : Key) : (valD ks k = none ∧ valV kvs k = none) ∨ ∃ d v, valD ks k = some d ∧ valV kvs k = some v ∧ Rp K m H v d := by
  induction r with
  | nil => exact .inl ⟨rfl, rfl⟩
  | @cons j v d kvs ks r rs ih =>
    by_cases e : j = k
    · exact .inr ⟨d, v, by simp [valD, List.find?_cons, e], valV_pos (p := (j, v)) e, r⟩
    · have e1 : valD ((j, d) :: ks) k = valD ks k := by simp [valD, List.find?_cons, e]
      rw [e1, valV_neg (p := (j, v)) e]
      exact ih
theorem DL.any {K : PySem.W.Frag} {m : M} {H : Hp} {kvs : List (Key × V)} {ks : List (Key × D)} (r : DL K m H kvs ks) (k : Key) : (kvs.any fun kv => decide (kv.1 = k)) = ks.any fun kv => decide (kv.1 = k) := by
  induction r with
  | nil => rfl
  | cons r rs ih => simp only [List.any_cons, ih]
theorem DL.mp {K : PySem.W.Frag} {m : M} {H : Hp} {kvs : List (Key × V)} {ks : List (Key × D)} (r : DL K m H kvs ks) (k : Key) {v : V} {d : D} (q : Rp K m H v d) : DL K m H (kvs.map fun kv => if kv.1 = k then (kv.1, v) else kv) (ks.map fun kv => if kv.1 = k then (kv.1, d) else kv) := by
  induction r with
  | nil => exact .nil
  | @cons j v' d' kvs ks r rs ih =>
    simp only [List.map_cons]
    by_cases e : j = k
    · rw [if_pos e, if_pos e]; exact .cons q ih
    · rw [if_neg e, if_neg e]; exact .cons r ih
theorem DL.snoc {K : PySem.W.Frag} {m : M} {H : Hp} {kvs : List (Key × V)} {ks : List (Key × D)} (r : DL K m H kvs ks) (k : Key) {v : V} {d : D} (q : Rp K m H v d) : DL K m H (kvs ++ [(k, v)]) (ks ++ [(k, d)]) := by
  induction r with
  | nil => exact .cons q .nil
  | cons r rs ih => exact .cons r ih
theorem DL.put {K : PySem.W.Frag} {m : M} {H : Hp} {kvs : List (Key × V)} {ks : List (Key × D)} (r : DL K m H kvs ks) (k : Key) {v : V} {d : D} (q : Rp K m H v d) : DL K m H (putK kvs k v) (putD ks k d) := by
  unfold putK putD
  rw [r.any k]
  split
  · exact r.mp k q
  · exact r.snoc k q
theorem DL.merge {K : PySem.W.Frag} {m : M} {H : Hp} {more : List (Key × V)} {mores : List (Key × D)} (r : DL K m H more mores) : ∀ {kvs : List (Key × V)} {ks : List (Key × D)}, DL K m H kvs ks → DL K m H (mergeK kvs more) (mergeD ks mores) := by
  induction r with
  | nil => exact fun q => q
  | cons r rs ih => exact fun q => ih (q.put _ r)
theorem DL.ev {K : PySem.W.Frag} {m m' : M} {H H' : Hp} (e : Ev m H m' H') {kvs : List (Key × V)} {ks : List (Key × D)} (r : DL K m H kvs ks) : DL K m' H' kvs ks := by
  induction r with
  | nil => exact .nil
  | cons r rs ih => exact .cons (r.ev e) ih
theorem rp_dic {K : PySem.W.Frag} {m : M} {H : Hp} {S : List O} {v : V} {d : D} {ks : List (Key × D)} (s : SR C K m H S) (r : Rp K m H v d) (h : dicS S d = some ks) : ∃ a kvs, v = .ref a ∧ H a = some (.dK kvs) ∧ DL K m H kvs ks := by
  obtain ⟨a, kvs, e, h1, h2, h3⟩ := rp_dicS s r h
  exact ⟨a, kvs, e, h1, .of h2 h3⟩
section
variable {X : Cx} {C : Addr} {pos : Pos} {a b c e tg iter : Expr} {es : List Expr} {ta tb tc te : TE} {tA : TA} {fa fb fc f : E} {g : A}
/-! ### d[k], k in d, d.get(k, x), d[k] = v -/
def dGet : Op2 := fun x y S => (dicS S x).bind fun ks => (dK y).bind fun k => valD ks k
theorem s_dget {K : PySem.W.Frag} (ho : ESem C K ta fa) (hi : ESem C K tb fb) : ESem C K (tDGet ta tb) (eOp dGet fa fb) := fun m σ H δ S d S' Q er sr hf q => by
  unfold eOp dGet at hf
  obtain ⟨⟨d1, S1⟩, q1, hf⟩ := Option.bind_eq_some_iff.mp hf
  obtain ⟨⟨d2, S2⟩, q2, hf⟩ := Option.bind_eq_some_iff.mp hf
  obtain ⟨d3, q3, hf⟩ := Option.bind_eq_some_iff.mp hf
  cases hf
  obtain ⟨ks, q4, q3⟩ := Option.bind_eq_some_iff.mp q3
  obtain ⟨k, q5, q3⟩ := Option.bind_eq_some_iff.mp q3
  refine ho m σ H δ S d1 S1 _ er sr q1 fun v m1 H1 e1 s1 r1 => ?_
  refine hi m1 σ H1 δ S1 d2 S2 _ (er.ev e1) s1 q2 fun u m2 H2 e2 s2 r2 => ?_
  obtain ⟨p, kvs, ee, h1, h2⟩ := rp_dic s2 (r1.ev e2) q4
  subst ee
  have ek := rp_key r2 q5
  subst ek
  rcases h2.val k with ⟨z, _⟩ | ⟨d', v, z1, z2, r3⟩
  · rw [q3] at z; cases z
  · rw [q3] at z1; cases z1
    exact ⟨p, v, rfl, by rw [← z2]; exact .k h1, q v m2 H2 (e1.trans e2) s2 r3⟩
theorem re_dget (hu : X.A.units + 1 < cLine) (ho : RE X C a ta fa) (hi : RE X C b tb fb) (hs : NoSl b := by exact fun _ _ => rfl) : RE X C (.Subscript a b pos) (tDGet ta tb) (eOp dGet fa fb) := ⟨pe_dget hu ho.p hi.p hs, s_dget ho.s hi.s⟩
def dInK (neg : Bool) : Op2 := fun y x S => (dicS S x).bind fun ks => (dK y).bind fun k => some (.bl (if neg then !(valD ks k).isSome else (valD ks k).isSome))
def rInK (neg : Bool) : R2 := fun y x H Q => ∃ a o, x = .ref a ∧ DGet H a y o ∧ Q (.bl (if neg then !o.isSome else o.isSome)) H
theorem op_inK (hu : X.A.units + 1 < cLine) : OpR X (compareOp .In) (rInK false) := by
  intro pins s σ H y x u v Q I ry rx h
  obtain ⟨a, o, ex, g, q⟩ := h
  subst ex
  obtain rfl : v = Value.ref a := rx
  exact d_in hu I g ry fun s3 I3 => ⟨.bl o.isSome, H, I3, rfl, q⟩
theorem op_notInK (hu : X.A.units + 1 < cLine) : OpR X (compareOp .NotIn) (rInK true) := by
  intro pins s σ H y x u v Q I ry rx h
  obtain ⟨a, o, ex, g, q⟩ := h
  subst ex
  obtain rfl : v = Value.ref a := rx
  exact d_notIn hu I g ry fun s3 I3 => ⟨.bl (!o.isSome), H, I3, rfl, q⟩
theorem s_inK {K : PySem.W.Frag} {neg : Bool} : R2Sem C K (rInK neg) (dInK neg) := fun m H x y d1 d2 S d Q r1 r2 sr hf q => by
  unfold dInK at hf
  obtain ⟨ks, q4, hf⟩ := Option.bind_eq_some_iff.mp hf
  obtain ⟨k, q5, hf⟩ := Option.bind_eq_some_iff.mp hf
  cases hf
  obtain ⟨p, kvs, ee, h1, h2⟩ := rp_dic sr r2 q4
  subst ee
  have ek := rp_key r1 q5
  subst ek
  refine ⟨p, _, rfl, .k h1, ?_⟩
  have e : (valV kvs k).isSome = (valD ks k).isSome := by
    rcases h2.val k with ⟨z1, z2⟩ | ⟨d', v, z1, z2, r3⟩ <;> rw [z1, z2] <;> rfl
  rw [e]
  exact q _ m H .refl sr (.bl _)
theorem rc_din (hu : X.A.units + 1 < cLine) (ha : RE X C a ta fa) (hb : RE X C b tb fb) (hm : behindInMarks .In b = false := by rfl) : RC X C (.Compare a [.In] [b] pos) (tOp (rInK false) ta tb) (eOp (dInK false) fa fb) := rc_op (op_inK hu) s_inK ha hb hm
theorem rc_dnotin (hu : X.A.units + 1 < cLine) (ha : RE X C a ta fa) (hb : RE X C b tb fb) (hm : behindInMarks .NotIn b = false := by rfl) : RC X C (.Compare a [.NotIn] [b] pos) (tOp (rInK true) ta tb) (eOp (dInK true) fa fb) := rc_op (op_notInK hu) s_inK ha hb hm
def isDic (S : List O) (d : D) : Bool := (dicS S d).isSome
theorem isDic_is {K : PySem.W.Frag} {m : M} {H : Hp} {S : List O} {v : V} {d : D} (s : SR C K m H S) (r : Rp K m H v d) (h : isDic S d = true) : ∃ a, v = .ref a ∧ IsD H a := by
  obtain ⟨ks, hk⟩ := Option.isSome_iff_exists.mp h
  obtain ⟨a, kvs, e, h1, _⟩ := rp_dic s r hk
  exact ⟨a, e, .inl ⟨kvs, .inl h1⟩⟩
def eGet2 (f1 f2 f3 : E) : E := fun δ S => (f1 δ S).bind fun x => if isDic x.2 x.1 = true then (f2 δ x.2).bind fun y => (f3 δ y.2).bind fun z => (dicS z.2 x.1).bind fun ks => (dK y.1).bind fun k => some ((valD ks k).getD z.1, z.2) else none
theorem re_dget2 {apos : Pos} (hu : X.A.units + 1 < cLine) (ho : RE X C a ta fa) (he : RE X C b tb fb) (hf : RE X C c tc fc) (m : M2 X a "get" apos b c pos) : RE X C (.Call (.Attribute a "get" apos) [b, c] [] pos) (tDGet2 ta tb tc) (eGet2 fa fb fc) := ⟨pe_dget2 hu ho.p he.p hf.p m, fun m σ H δ S d S' Q er sr hf' q => by
  unfold eGet2 at hf'
  obtain ⟨⟨d1, S1⟩, q1, hf'⟩ := Option.bind_eq_some_iff.mp hf'
  split at hf'
  · rename_i hd
    obtain ⟨⟨d2, S2⟩, q2, hf'⟩ := Option.bind_eq_some_iff.mp hf'
    obtain ⟨⟨d3, S3⟩, q3, hf'⟩ := Option.bind_eq_some_iff.mp hf'
    obtain ⟨ks, q4, hf'⟩ := Option.bind_eq_some_iff.mp hf'
    obtain ⟨k, q5, hf'⟩ := Option.bind_eq_some_iff.mp hf'
    cases hf'
    refine ho.s m σ H δ S d1 S1 _ er sr q1 fun v m1 H1 e1 s1 r1 => ?_
    obtain ⟨p, ep, hD⟩ := isDic_is s1 r1 hd
    refine ⟨p, ep, hD, ?_⟩
    refine he.s m1 σ H1 δ S1 d2 S2 _ (er.ev e1) s1 q2 fun u m2 H2 e2 s2 r2 => ?_
    refine hf.s m2 σ H2 δ S2 d3 S3 _ (er.ev (e1.trans e2)) s2 q3 fun w m3 H3 e3 s3 r3 => ?_
    obtain ⟨p', kvs, ee, h1, h2⟩ := rp_dic s3 (r1.ev (e2.trans e3)) q4
    rw [ep] at ee
    cases ee
    have ek := rp_key r2 q5
    subst ek
    refine ⟨_, .k h1, ?_⟩
    rcases h2.val k with ⟨z1, z2⟩ | ⟨d', v', z1, z2, r4⟩
    · rw [z2]; exact q w m3 H3 (e1.trans (e2.trans e3)) s3 (by rw [z1]; exact r3)
    · rw [z2]; exact q v' m3 H3 (e1.trans (e2.trans e3)) s3 (by rw [z1]; exact r4)
  · cases hf'⟩
/-- d[k] = v, of a changing dict -/
def sDput (fe fo fi : E) : B := fun δ S => (fe δ S).bind fun v => (fo δ v.2).bind fun o => (fi δ o.2).bind fun i => (dK i.1).bind fun k =>
  (setO i.2 o.1 fun ob => match ob with | .dic ks => if ks.length < 16777216 then some (.dic (putD ks k v.1)) else none | _ => none).bind fun S' => some (.nx δ S')
theorem rs_dput {pos' : Pos} (hu : X.A.units + 1 < cLine) (he : RE X C e te f) (ho : RE X C a ta fa) (hi : RE X C b tb fb) (hs : swapsWith e (some (.Subscript a b pos')) pos.line X.env = pure false := by rfl) :
    RS X C (.Assign [.Subscript a b pos'] e pos) (L2.sDPut ta tb te) (sDput f fa fb) := ⟨ps_dput hu ho.p hi.p he.p hs, fun m σ H δ S o Z er sr hf q => by
  unfold sDput at hf
  obtain ⟨⟨d1, S1⟩, q1, hf⟩ := Option.bind_eq_some_iff.mp hf
  obtain ⟨⟨d2, S2⟩, q2, hf⟩ := Option.bind_eq_some_iff.mp hf
  obtain ⟨⟨d3, S3⟩, q3, hf⟩ := Option.bind_eq_some_iff.mp hf
  obtain ⟨k, qk, hf⟩ := Option.bind_eq_some_iff.mp hf
  obtain ⟨S4, q4, hf⟩ := Option.bind_eq_some_iff.mp hf
  cases hf
  refine he.s m σ H δ S d1 S1 _ er sr q1 fun v m1 H1 e1 s1 r1 => ?_
  refine ho.s m1 σ H1 δ S1 d2 S2 _ (er.ev e1) s1 q2 fun u m2 H2 e2 s2 r2 => ?_
  refine hi.s m2 σ H2 δ S2 _ S3 _ (er.ev (e1.trans e2)) s2 q3 fun w m3 H3 e3 s3 r3 => ?_
  have ek := rp_key r3 qk
  subst ek
  have r2' := r2.ev e3
  have r1' := r1.ev (e2.trans e3)
  obtain ⟨n, ob, ob', ed, q5, q6, eS⟩ := setO_inv q4
  have ed : d2 = .ref n := ed
  subst ed
  subst eS
  dsimp only at q6
  split at q6
  · split at q6
    · rename_i ks hl
      cases q6
      cases r2' with
      | @ref p _ hn =>
        obtain ⟨kvs, h1, h2, h3⟩ := s3.obj _ _ _ hn q5
        have dl := DL.of h2 h3
        obtain ⟨_, hu, ht, hf⟩ := s3.nottup (List.mem_of_getElem? hn)
        have es : Ev m3 H3 m3 (upd H3 p (.dK (putK kvs k v))) := .set (List.mem_of_getElem? hn) hu ht hf
        have dl2 := (dl.put k r1').ev es
        refine ⟨p, _, rfl, .k h1 (by rw [dl.length]; exact lt_line hl), ?_⟩
        exact q m3 σ _ (e1.trans (e2.trans (e3.trans es))) (er.ev (e1.trans (e2.trans (e3.trans es)))) (s3.put hn ⟨_, upd_same, dl2.keys, dl2.vals⟩)
    · cases q6
  · cases q6⟩
/-! ### new dicts -/
def ddNew : DD := fun _ S => some ([], S)
theorem rd_new : RD X C (.Dict [] [] pos) tDNewK ddNew := ⟨pe_dnewK, fun m σ H δ S ds S' Q er sr hf q => by
  cases hf
  exact fun p hp => q p [] m _ (.lay hp) hp upd_same (sr.hideLay hp) rfl .nil⟩
abbrev PP := Sl → List O → Option (List (D × D) × List O)
def PSem (C : Addr) (K : PySem.W.Frag) (t : List (TE × TE)) (f : PP) : Prop := ∀ m σ H δ S ps S' Q, ER K m H σ δ → SR C K m H S → f δ S = some (ps, S') →
  (∀ vs m' H', Ev m H m' H' → SR C K m' H' S' → RpAll K m' H' (vs.map (·.1)) (ps.map (·.1)) → RpAll K m' H' (vs.map (·.2)) (ps.map (·.2)) → Q vs H') → tPairs t σ H Q
structure RPs (X : Cx) (C : Addr) (pos : Pos) (ks : List (Option Expr)) (vs : List Expr) (t : List (TE × TE)) (f : PP) : Prop where
  p : PPs X pos ks vs t
  s : PSem C X.K t f
def ppNil : PP := fun _ S => some ([], S)
def ppCons (f1 f2 : E) (g : PP) : PP := fun δ S => (f1 δ S).bind fun x => (f2 δ x.2).bind fun y => (g δ y.2).bind fun r => some ((x.1, y.1) :: r.1, r.2)
theorem rpps_nil : RPs X C pos [] [] [] ppNil := ⟨pps_nil, fun m σ H δ S ps S' Q er sr hf q => by cases hf; exact q [] m H .refl sr .nil .nil⟩
theorem rpps_cons {ks : List (Option Expr)} {vs : List Expr} {t : List (TE × TE)} {gp : PP} (ha : RE X C a ta fa) (hb : RE X C b tb fb) (hr : RPs X C pos ks vs t gp) : RPs X C pos (some a :: ks) (b :: vs) ((ta, tb) :: t) (ppCons fa fb gp) := ⟨pps_cons ha.p hb.p hr.p, fun m σ H δ S ps S' Q er sr hf q => by
  unfold ppCons at hf
  obtain ⟨⟨d1, S1⟩, q1, hf⟩ := Option.bind_eq_some_iff.mp hf
  obtain ⟨⟨d2, S2⟩, q2, hf⟩ := Option.bind_eq_some_iff.mp hf
  obtain ⟨⟨r, S3⟩, q3, hf⟩ := Option.bind_eq_some_iff.mp hf
  cases hf
  refine ha.s m σ H δ S d1 S1 _ er sr q1 fun v m1 H1 e1 s1 r1 => ?_
  refine hb.s m1 σ H1 δ S1 d2 S2 _ (er.ev e1) s1 q2 fun u m2 H2 e2 s2 r2 => ?_
  refine hr.s m2 σ H2 δ S2 r S3 _ (er.ev (e1.trans e2)) s2 q3 fun vs m3 H3 e3 s3 a3 b3 => ?_
  exact q ((v, u) :: vs) m3 H3 (e1.trans (e2.trans e3)) s3 (.cons (r1.ev (e2.trans e3)) a3) (.cons (r2.ev e3) b3)⟩
mutual
theorem Rp.overK {K : PySem.W.Frag} {m : M} {H : Hp} {p : Addr} {zs : List (Key × V)} {o : HO} (hp : p ∈ m.b) (hl : H p = some (.dK zs)) : ∀ {v : V} {d : D}, Rp K m H v d → Rp K m (upd H p o) v d
  | _, _, .non => .non
  | _, _, .bl b => .bl b
  | _, _, .int i => .int i
  | _, _, .str x => .str x
  | _, _, .tup h r => .tup (by
      rcases h with (h | ⟨u, h⟩) | h
      · exact .inl (.inl (by rw [upd_ne (fun e => by subst e; rw [h] at hl; cases hl)]; exact h))
      · exact .inl (.inr ⟨u, by rw [upd_ne (fun e => by subst e; rw [h] at hl; cases hl)]; exact h⟩)
      · exact .inr h) (RpAll.overK hp hl r)
  | _, _, .lst h n r => .lst (by rw [upd_ne (fun e => by subst e; exact n (.inr hp))]; exact h) n (RpAll.overK hp hl r)
  | _, _, .scr h => .scr (by
      rcases h with ⟨u, h⟩ | h
      · exact .inl ⟨u, by rw [upd_ne (fun e => by subst e; rw [h] at hl; cases hl)]; exact h⟩
      · exact .inr h)
  | _, _, .dic h n k r => .dic (by rw [upd_ne (fun e => by subst e; exact n (.inr hp))]; exact h) n k (RpAll.overK hp hl r)
  | _, _, .ref h => .ref h
  | _, _, .tun h h1 h2 r => .tun (by rw [upd_ne (fun e => by subst e; rw [h] at hl; cases hl)]; exact h) h1 h2 (RpAll.overK hp hl r)
  | _, _, .fn h => .fn h
theorem RpAll.overK {K : PySem.W.Frag} {m : M} {H : Hp} {p : Addr} {zs : List (Key × V)} {o : HO} (hp : p ∈ m.b) (hl : H p = some (.dK zs)) : ∀ {vs : List V} {ds : List D}, RpAll K m H vs ds → RpAll K m (upd H p o) vs ds
  | _, _, .nil => .nil
  | _, _, .cons r rs => .cons (Rp.overK hp hl r) (RpAll.overK hp hl rs)
end
theorem SR.overK {K : PySem.W.Frag} {m : M} {H : Hp} {S : List O} {p : Addr} {zs : List (Key × V)} {o : HO} (s : SR C K m H S) (hp : p ∈ m.b) (hl : H p = some (.dK zs)) : SR C K m (upd H p o) S :=
  ⟨s.nd, s.len, fun n a ob h1 h2 => (s.obj n a ob h1 h2).mp (upd_ne (fun e => by subst e; exact s.apt a hp (List.mem_of_getElem? h1))) (RpAll.overK hp hl), fun a ha => by
    by_cases e : a = p
    · rw [e, upd_same]; exact fun z => nomatch z
    · rw [upd_ne e]; exact s.hid a ha, s.apt⟩
def keysD : List (D × D) → Option (List (Key × D))
  | [] => some []
  | (k, d) :: r => (dK k).bind fun k => (keysD r).bind fun r => some ((k, d) :: r)
theorem keysD_rp {K : PySem.W.Frag} {m : M} {H : Hp} : ∀ {vs : List (V × V)} {ps : List (D × D)} {ks : List (Key × D)}, keysD ps = some ks → RpAll K m H (vs.map (·.1)) (ps.map (·.1)) → RpAll K m H (vs.map (·.2)) (ps.map (·.2)) →
    ∃ kvs : List (Key × V), vs = kvs.map (fun kv => (kV kv.1, kv.2)) ∧ DL K m H kvs ks
  | [], [], ks, h, _, _ => by cases h; exact ⟨[], rfl, .nil⟩
  | [], _ :: _, _, _, r, _ => by simp at r; cases r
  | _ :: _, [], _, _, r, _ => by simp at r; cases r
  | (v, u) :: vs, (k, d) :: ps, ks, h, r, q => by
    unfold keysD at h
    obtain ⟨k', h1, h⟩ := Option.bind_eq_some_iff.mp h
    obtain ⟨ks', h2, h⟩ := Option.bind_eq_some_iff.mp h
    cases h
    simp only [List.map_cons] at r q
    cases r with
    | cons r1 r2 =>
      cases q with
      | cons q1 q2 =>
        obtain ⟨kvs, e, dl⟩ := keysD_rp h2 r2 q2
        have ek := rp_key r1 h1
        have ek : v = kV k' := ek
        subst ek
        subst e
        exact ⟨(k', u) :: kvs, rfl, .cons q1 dl⟩
def ddDisp (g : PP) : DD := fun δ S => (g δ S).bind fun p => if p.1.length ≤ 15 then (keysD p.1).bind fun ks => some (mergeD [] ks, p.2) else none
theorem rd_disp {keys : List (Option Expr)} {values : List Expr} {t : List (TE × TE)} {gp : PP} (h : RPs X C pos keys values t gp) (hall : keys.all (·.isSome) = true := by rfl) (hl : keys.length = values.length := by rfl) (h0 : keys ≠ [] := by exact (fun z => nomatch z))
    (h15 : keys.length ≤ 15 := by decide) : RD X C (.Dict keys values pos) (tDisp t) (ddDisp gp) := ⟨pe_disp h.p hall hl h0 h15, fun m σ H δ S ds S' Q er sr hf q => by
  unfold ddDisp at hf
  obtain ⟨⟨ps, S1⟩, q1, hf⟩ := Option.bind_eq_some_iff.mp hf
  split at hf
  · rename_i hlen
    have hlen : ps.length ≤ 15 := hlen
    obtain ⟨ks, q2, hf⟩ := Option.bind_eq_some_iff.mp hf
    cases hf
    intro p hp
    have er' : ER X.K (m.hide p) (upd H p (.dK [])) σ δ := ⟨er.len, fun i d q => let ⟨v, a, b⟩ := er.get i d q; ⟨v, a, b.hide hp (.lay hp)⟩⟩
    refine h.s (m.hide p) σ _ δ S ps _ _ er' (sr.hideLay hp) q1 fun vs m2 H2 e2 s2 a2 b2 => ?_
    obtain ⟨l2, b2'⟩ := m2
    have hb2 : b2' = p :: m.b := e2.hid
    subst hb2
    have hpl : p ∉ m.l := sr.notl hp
    have hx2 : H2 p = some (.dK []) := e2.keep _ _ upd_same hpl
    obtain ⟨kvs, ev, dl⟩ := keysD_rp q2 a2 b2
    refine ⟨hx2, kvs, ev, ?_, ?_⟩
    · have h1 := a2.length
      rw [List.length_map, List.length_map, ev, List.length_map] at h1
      omega
    · have e3 : Ev m H ⟨l2, m.b⟩ H2 := (Ev.lay hp).trans ⟨e2.pre, rfl, e2.new, e2.keep, e2.tup, e2.frz⟩
      have dm := dl.merge (.nil (K := X.K) (m := ⟨l2, p :: m.b⟩) (H := H2))
      exact q p _ ⟨l2, m.b⟩ _ (e3.over hp) hp upd_same (s2.overK List.mem_cons_self hx2) dm.keys (RpAll.overK List.mem_cons_self hx2 dm.vals)
  · cases hf⟩
/-! ### dict(d), dict(pairs) -/
abbrev Bd := List D → List O → Option (List (Key × D))
def CdSem (C : Addr) (K : PySem.W.Frag) (r : List V → Hp → VK → Prop) (g : Bd) : Prop := ∀ m H xs ds S d Q, RpAll K m H xs ds → SR C K m H S → g ds S = some d →
  (∀ p ys, H p = none → DL K m H ys d → Q (.ref p) (upd H p (.dK ys))) → r xs H Q
def ddBi (k : Bd) (g : A) : DD := fun δ S => (g δ S).bind fun p => (k p.1 p.2).bind fun d => some (d, p.2)
theorem s_bd {K : PySem.W.Frag} {r : List V → Hp → VK → Prop} {k : Bd} (hc : CdSem C K r k) (h : ASem C K tA g) : DSem C K (tCB r tA) (ddBi k g) := fun m σ H δ S d S' Q er sr hf q => by
  unfold ddBi at hf
  obtain ⟨⟨ds, S1⟩, q1, hf⟩ := Option.bind_eq_some_iff.mp hf
  obtain ⟨d2, q2, hf⟩ := Option.bind_eq_some_iff.mp hf
  cases hf
  refine h m σ H δ S ds S1 _ er sr q1 fun vs m1 H1 e1 s1 r1 => ?_
  exact hc m1 H1 vs ds S1 _ _ r1 s1 q2 fun p ys hp r2 => q p ys m1 _ (e1.trans (.lay hp)) (e1.free s1 hp) upd_same (s1.hideLay hp) r2.keys (r2.vals.hide hp (.lay hp))
theorem rd_callTy {T : String} {x : Str} {r : List V → Hp → VK → Prop} {k : Bd} {p : Pos} (hc : CallR X (.type T) r) (hs : CdSem C X.K r k) (hg : Gl X x) (hm : X.mg x = none) (hv : bootBuiltins x = some (.type T)) (ha : RA X C (e :: es) tA g) (hn : x ≠ "__name__" := by decide) (hdb : (x == ("__debug__" : Str)) = false := by decide)
    (he : starEach (e :: es) X.env = (false, eval e X.env) :: starEach es X.env := by rfl) (hpl : (backTo pos (starEach es X.env)).any (·.1) = false := by rfl) :
    RD X C (.Call (.Name x p) (e :: es) [] pos) (tCB r tA) (ddBi k g) := ⟨pe_callTy hc hg hm hv ha.p hn hdb he hpl, s_bd hs ha.s⟩
def bdCopy : Bd := fun ds S => match ds with
  | [d] => dicS S d
  | _ => none
def rCopyK : List V → Hp → VK → Prop := fun xs H Q => ∃ a kvs, xs = [.ref a] ∧ H a = some (.dK kvs) ∧ ∀ p, H p = none → Q (.ref p) (upd H p (.dK kvs))
theorem cr_copyK : CallR X (.type "dict") rCopyK := by
  intro pins s σ H xs us Q I r q
  obtain ⟨a, kvs, ex, hq, q⟩ := q
  subst ex
  obtain ⟨u, eu, rx⟩ := vals1 r
  subst eu
  cases rx
  exact d_copyOf I (.inl hq) fun p s' hp I' => ⟨.ref p, _, I', rfl, q p hp⟩
theorem s_copyK {K : PySem.W.Frag} : CdSem C K rCopyK bdCopy := fun m H xs ds S d Q r sr hf q => by
  unfold bdCopy at hf
  split at hf
  · cases r with
    | cons r1 rr =>
      cases rr
      obtain ⟨a, kvs, e, h1, h2⟩ := rp_dic sr r1 hf
      subst e
      exact ⟨a, kvs, rfl, h1, fun p hp => q p _ hp h2⟩
  · cases hf
def ddCopy (g : A) : DD := ddBi bdCopy g
theorem rd_copy {p : Pos} (hg : Gl X "dict") (hm : X.mg "dict" = none) (ha : RA X C (e :: es) tA g) (he : starEach (e :: es) X.env = (false, eval e X.env) :: starEach es X.env := by rfl) (hpl : (backTo pos (starEach es X.env)).any (·.1) = false := by rfl) :
    RD X C (.Call (.Name "dict" p) (e :: es) [] pos) (tCB rCopyK tA) (ddCopy g) := rd_callTy cr_copyK s_copyK hg hm (by decide +kernel) ha (by decide) (by decide) he hpl
end
theorem unL {A : Around} (r : Room 230 A) : A.units + 3800 < cLine := by have := r.un; omega
end Cb
namespace Cb
open PySem PySem.Spec PyProof.Rows L2

/-! ### zip(text, tuple) -/
def ItzS (K : PySem.W.Frag) (x : Str) (b : Addr) : It :=
  ⟨fun i H => ∃ (ys : List V) (y : V), SqT K H b ys ∧ i < x.cps.size ∧ ys[i]? = some y,
    fun i H v H' => ∃ (T : Addr) (c : Nat) (y : V), v = .ref T ∧ H T = none ∧ H' = upd H T (.tup [.str ⟨#[c]⟩, y]) ∧ x.cps[i]? = some c ∧ ∀ ys, SqT K H b ys → ys[i]? = some y,
    fun i H => ∃ ys : List V, SqT K H b ys ∧ i ≤ x.cps.size ∧ i ≤ ys.length ∧ (i = x.cps.size ∨ i = ys.length)⟩
theorem turn_zipS {P : Program} {w : World} {K : PySem.W.Frag} {elts : List Expr} {kk : Nat} {tpos : Pos} {x : Str} {t : Tok} {b z TI TO i1 i2 : Addr} (D : ZipSep2 z TI TO i1 i2 [i1] [i2, b]) :
    Turn P w K (.Tuple elts kk tpos) (ItzS K x b) [z, TI, TO, i1, i2] z (fun i h => IsZip h z TI TO .none ∧ IsTupOf2 h TI (.ref i1) (.ref i2) ∧ (∃ a1 a2, IsTupOf2 h TO a1 a2) ∧ h.IsStrIter i1 (strIterType x) x t i ∧ h.IsTupleIter i2 b i) where
  mem := by simp
  obj := fun i h st c hc => by
    obtain ⟨hz, hTI, ⟨x, y, hTO⟩, ⟨o1, e1, _, d1⟩, ⟨o2, e2, _, d2⟩⟩ := st
    have e' : c = z ∨ c = TI ∨ c = TO ∨ c = i1 ∨ c = i2 := by simpa using hc
    rcases e' with q | q | q | q | q
    · rw [q]; exact ⟨_, hz, fun v q => nomatch q⟩
    · rw [q]; exact ⟨_, hTI, fun v q => nomatch q⟩
    · rw [q]; exact ⟨_, hTO, fun v q => nomatch q⟩
    · rw [q]; exact ⟨o1, e1, fun v q => by rw [d1] at q; cases q⟩
    · rw [q]; exact ⟨o2, e2, fun v q => by rw [d2] at q; cases q⟩
  keep := fun i h h' st k => by
    obtain ⟨hz, hTI, ⟨x, y, hTO⟩, h1, h2⟩ := st
    exact ⟨k z (by simp) _ hz, k TI (by simp) _ hTI, ⟨x, y, k TO (by simp) _ hTO⟩, let ⟨o, q, r⟩ := h1; ⟨o, k i1 (by simp) o q, r⟩, h2.at fun o q => k i2 (by simp) o q⟩
  item := by
    intro X hP hw hK hc i pins s σ H E I hf st hg
    subst hP hw hK
    obtain ⟨hz, hTI, ⟨x0, y0, hTO⟩, h1, h2⟩ := st
    obtain ⟨ys, y, hqy, hx, hy⟩ := hg
    obtain ⟨its2, rv2, p2, _⟩ := I.tuple hqy
    obtain ⟨u2, hu2, ru2⟩ := rv2.get hy
    have p2' : s.heap.IsTuple b its2.toArray := p2
    have hzl : z < s.heap.objs.size := Heap.lt_size hz
    have hiu : i < its2.length := (List.getElem?_eq_some_iff.mp hu2).1
    have hh := I.ok.hd hc
    have hb2 : b ≠ i2 := by
      intro e
      subst e
      exact tit_apart h2 p2' rfl
    refine wpAny_pyNext_zipD2_item D (Draws.text (A := X.A.in1) hh i1 x t) (Draws.tuple (A := X.A.in1) hh i2 b hb2 its2.toArray) hz hTI hTO h1 ⟨h2, p2'⟩ hx (by simpa using hiu) fun x1 x2 h' tk P1 P2 z' TO' st1 st2 hT hsz hk => ?_
    obtain ⟨c, uu, hcx, rfl⟩ := P1
    have e2 : x2 = u2 := by
      have P2 : its2.toArray[i]? = some x2 := P2
      rw [List.getElem?_toArray, hu2] at P2
      exact (Option.some.inj P2).symm
    subst e2
    obtain ⟨h2', _⟩ := st2
    refine ⟨_, rfl, wpAny_letOwnedTupleGo_zip (s := { s with heap := h', toks := tk }) z' fun h'' z'' sb => ?_⟩
    have hT2 : h''.get? s.heap.objs.size = some { cls := .type "tuple", data := .seq #[.str ⟨#[c]⟩ uu, x2] } := (sb.2 _ (Nat.ne_of_gt hzl)).trans hT
    have new : ObjOk X.prog X.w (upd H s.heap.objs.size (.tup [.str ⟨#[c]⟩, y])) h'' s.heap.objs.size (.tup [.str ⟨#[c]⟩, y]) :=
      ⟨by show 2 ≤ sizeLine; decide, [.str ⟨#[c]⟩ uu, x2], .cons ⟨_, rfl⟩ (.cons ru2 .nil), ⟨_, hT2, rfl, _, rfl⟩⟩
    have I1 : Inv X pins σ (upd H s.heap.objs.size (.tup [.str ⟨#[c]⟩, y])) { s with heap := h'', toks := tk } :=
      I.turnedNew (t' := tk) (ch := [z, TI, TO, i1, i2]) (fun c o hb q => (sb.2 c (fun q' => hb (by simp [q']))).trans (hk c o (fun q' => hb (by simp [q'])) (fun q' => hb (by simp [q'])) (fun q' => hb (by simp [q'])) (fun q' => hb (by simp [q'])) q)) hf (Nat.le_refl _) new
    refine ⟨.ref s.heap.objs.size, _, I1, rfl, ⟨_, c, y, rfl, I.hok.fresh (Nat.le_refl _), rfl, hcx, fun l hl => by rw [I.tuple_inj hl hqy]; exact hy⟩, ⟨z'', ?_, ⟨.str ⟨#[c]⟩ uu, x2, ?_⟩, ?_, ?_⟩, fun c hcm => ?_⟩
    · exact (sb.2 _ D.TIz).trans (hk _ _ D.TIz D.TITO D.TIi1 D.TIi2 hTI)
    · exact (sb.2 _ D.TOz).trans TO'
    · obtain ⟨o, q, r⟩ := st1
      exact ⟨o, (sb.2 _ (Ne.symm D.zi1)).trans q, r⟩
    · exact h2'.at fun o q => (sb.2 _ (Ne.symm D.zi2)).trans q
    · have hlt : c < s.heap.objs.size := by
        have e' : c = z ∨ c = TI ∨ c = TO ∨ c = i1 ∨ c = i2 := by simpa using hcm
        rcases e' with q | q | q | q | q
        · rw [q]; exact hzl
        · rw [q]; exact Heap.lt_size hTI
        · rw [q]; exact Heap.lt_size hTO
        · rw [q]; obtain ⟨_, e1, _⟩ := h1; exact Heap.lt_size e1
        · rw [q]; obtain ⟨_, e2, _⟩ := h2; exact Heap.lt_size e2
      rw [upd_ne (Nat.ne_of_lt hlt)]
      exact (hf c hcm).1
  done := by
    intro X hP hw hK hc i pins s σ H E I hf st hg
    subst hP hw hK
    obtain ⟨hz, hTI, ⟨x0, y0, hTO⟩, h1, h2⟩ := st
    obtain ⟨ys, hqy, hle1, hle2, hend⟩ := hg
    obtain ⟨its2, rv2, p2, _⟩ := I.tuple hqy
    have l2 := rv2.length
    have p2' : s.heap.IsTuple b its2.toArray := p2
    have hh := I.ok.hd hc
    have hb2 : b ≠ i2 := by
      intro e
      subst e
      exact tit_apart h2 p2' rfl
    refine wpAny_pyNext_zipD2_end D (Draws.text (A := X.A.in1) hh i1 x t) (Draws.tuple (A := X.A.in1) hh i2 b hb2 its2.toArray) hz hTI hTO h1 ⟨h2, p2'⟩ hle1 (by simp; omega) (by simp; omega) fun h' tk hk => ⟨rfl, I.turnedL (t' := tk) (ch := [z, TI, TO, i1, i2]) (fun c o hb q =>
      hk c o (fun q' => hb (by simp [q'])) (fun q' => hb (by simp [q'])) (fun q' => hb (by simp [q'])) (fun q' => hb (by simp [q'])) q) hf⟩
  self := fun A i s Q E st h => wpAny_pyIter_zip st.1 h
def iZipTS (K : PySem.W.Frag) (ta : TA) : TI := fun σ H R => ta σ H fun vs H1 => ∃ (x : Str) (b : Addr) (ys : List V), vs = [.str x, .ref b] ∧ SqT K H1 b ys ∧ R (ItzS K x b) H1
theorem pi_zipS {X : Cx} {e e2 : Expr} {ta : TA} {p pos tpos : Pos} {elts : List Expr} {kk : Nat} (hg : Gl X "zip") (hm : X.mg "zip" = none) (ha : PA X [e, e2] ta)
    (hs : starEach [e, e2] X.env = (false, eval e X.env) :: starEach [e2] X.env := by rfl) (hpl : (backTo pos (starEach [e2] X.env)).any (·.1) = false := by rfl) :
    PI X (.Tuple elts kk tpos) (.Call (.Name "zip" p) [e, e2] [] pos) (iZipTS X.K ta) := by
  refine ⟨fun pins s σ H R I h => ?_⟩
  refine Call_ (ld_blt I hg hm PyProof.Rows.boot_zip (PyProof.Rows.callWith_type1 (thn (ha.run pos pins s σ H _ I h) fun us s1 ⟨vs, H1, I1, r1, q1⟩ => ?_) hs hpl))
  obtain ⟨x, b, ys, ex, hqy, q⟩ := q1
  subst ex
  cases r1 with
  | cons r rr =>
    cases rr with
    | cons r' rr =>
      cases rr
      obtain ⟨t, rfl⟩ := r
      cases r'
      have fresh5 : ∀ c, c ∈ [s1.heap.objs.size + 4, s1.heap.objs.size + 2, s1.heap.objs.size + 3, s1.heap.objs.size, s1.heap.objs.size + 1] → FpOk X pins H1 c := fun c hcm => by
        have e' : c = s1.heap.objs.size + 4 ∨ c = s1.heap.objs.size + 2 ∨ c = s1.heap.objs.size + 3 ∨ c = s1.heap.objs.size ∨ c = s1.heap.objs.size + 1 := by simpa using hcm
        have hle : s1.heap.objs.size ≤ c := by
          rcases e' with z | z | z | z | z
          · rw [z]; exact Nat.le_add_right _ _
          · rw [z]; exact Nat.le_add_right _ _
          · rw [z]; exact Nat.le_add_right _ _
          · rw [z]; exact Nat.le_refl _
          · rw [z]; exact Nat.le_add_right _ _
        exact I1.fpOk hle (I1.hok.fresh hle)
      obtain ⟨its2, rv2, p2, _⟩ := I1.tuple hqy
      have p2' : s1.heap.IsTuple b its2.toArray := p2
      have hbl : b < s1.heap.objs.size := by obtain ⟨_, e, _⟩ := p2'; exact Heap.lt_size e
      refine zip_begins2 (begins_text x t) (begins_tuple b its2.toArray) trivial p2' fun h' hz hTI hTO g1 g2 hsz hk => wpAny_pyIter_zip hz ?_
      have I2 : Inv X pins σ H1 { s1 with heap := h' } := I1.kept (t' := s1.toks) hk
      exact ⟨s1.heap.objs.size + 4, [s1.heap.objs.size + 4, s1.heap.objs.size + 2, s1.heap.objs.size + 3, s1.heap.objs.size, s1.heap.objs.size + 1], _, _, H1, rfl, I2,
        turn_zipS (t := t) (zip_sep2 (N := s1.heap.objs.size) (fp1 := []) (fp2 := [b]) (by simp) (by simpa using hbl)), ⟨hz, hTI, ⟨_, _, hTO⟩, ⟨_, g1, rfl, rfl⟩, ⟨_, g2, rfl, rfl⟩⟩, fresh5, q⟩
section
variable {X : Cx} {C : Addr} {pos : Pos} {a b c e tg iter : Expr} {es : List Expr} {ta tb tc te : TE} {tA : TA} {fa fb fc f : E} {g : A}
def zipSD : List Nat → List D → List D
  | c :: cs, d :: ds => .tup [.str ⟨#[c]⟩, d] :: zipSD cs ds
  | _, _ => []
theorem zipSD_len : ∀ (cs : List Nat) (ds : List D), (zipSD cs ds).length = min cs.length ds.length
  | [], _ => by simp [zipSD]
  | _ :: _, [] => by simp [zipSD]
  | c :: cs, d :: ds => by simp [zipSD, zipSD_len cs ds]
theorem zipSD_get : ∀ (cs : List Nat) (ds : List D) (i : Nat) (e : D), (zipSD cs ds)[i]? = some e → ∃ c d, cs[i]? = some c ∧ ds[i]? = some d ∧ e = .tup [.str ⟨#[c]⟩, d]
  | [], _, _, _, h => by simp [zipSD] at h
  | _ :: _, [], _, _, h => by simp [zipSD] at h
  | c :: cs, d :: ds, 0, e, h => by
    simp [zipSD] at h
    exact ⟨c, d, rfl, rfl, h.symm⟩
  | c :: cs, d :: ds, i + 1, e, h => by
    simp only [zipSD, List.getElem?_cons_succ] at h ⊢
    exact zipSD_get cs ds i e h
def iZipS (f1 f2 : E) : A := fun δ S => (f1 δ S).bind fun p => (f2 δ p.2).bind fun q => match p.1, q.1 with | .str x, .tup ds => some (zipSD x.cps.toList ds, q.2) | _, _ => none
theorem ri_zipS {elts : List Expr} {kk : Nat} {tpos p : Pos} (hg : Gl X "zip") (hm : X.mg "zip" = none) (h1 : RE X C a ta fa) (h2 : RE X C b tb fb) (hs : starEach [a, b] X.env = (false, eval a X.env) :: starEach [b] X.env := by rfl) (hs2 : starEach [b] X.env = [(false, eval b X.env)] := by rfl) (hpl : (backTo pos (starEach [b] X.env)).any (·.1) = false := by rfl) :
    RI X C (.Tuple elts kk tpos) (.Call (.Name "zip" p) [a, b] [] pos) (iZipTS X.K (tCons ta (tCons tb tNil))) (iZipS fa fb) :=
  ⟨pi_zipS hg hm (pa_cons h1.p (pa_cons h2.p pa_nil hs2) hs) hs hpl, fun m σ H δ S items S' R er sr hf q => by
    unfold iZipS at hf
    obtain ⟨⟨d1, S1⟩, q1, hf⟩ := Option.bind_eq_some_iff.mp hf
    obtain ⟨⟨d2, S2⟩, q2, hf⟩ := Option.bind_eq_some_iff.mp hf
    split at hf
    · rename_i x ds hk1 hk2
      have hk1 : d1 = .str x := hk1
      have hk2 : d2 = .tup ds := hk2
      subst hk1
      subst hk2
      cases hf
      refine h1.s m σ H δ S _ S1 _ er sr q1 fun v m1 H1 e1 s1 r1 => ?_
      refine h2.s m1 σ H1 δ S1 _ S2 _ (er.ev e1) s1 q2 fun u m2 H2 e2 s2 r2 => ?_
      cases r1
      cases r2 with
      | @tup b' ys _ h4 h5 =>
        refine ⟨x, b', ys, rfl, h4, q _ m2 H2 (e1.trans e2) s2 fun m3 H3 S3 e3 s3 => ?_⟩
        have hl := h5.length
        have hle := zipSD_len x.cps.toList ds
        have hz : x.cps.toList.length = x.cps.size := by simp
        refine ⟨fun i hi => ?_, ⟨ys, e3.ev.sqT h4, by omega, by omega, by omega⟩, fun i d v H' hd y => ?_⟩
        · obtain ⟨y, hy⟩ := lt_get (l := ys) (i := i) (by omega)
          exact ⟨ys, y, e3.ev.sqT h4, by omega, hy⟩
        · obtain ⟨T, c, y, ev, hT, eH, hc, y2⟩ := y
          subst ev; subst eH
          obtain ⟨c', d', hc', hd', ed⟩ := zipSD_get _ _ _ _ hd
          subst ed
          have ec : c' = c := by
            rw [Array.getElem?_toList] at hc'
            rw [hc] at hc'
            cases hc'
            rfl
          subst ec
          obtain ⟨v, hv, rv⟩ := h5.get hd'
          have := y2 ys (e3.ev.sqT h4)
          rw [hv] at this
          cases this
          exact ⟨.lay hT, s3.lay hT, .tup (.of upd_same) (.cons (.str _) (.cons ((rv.evH e3).ev (.lay hT)) .nil))⟩
    · cases hf⟩
/-! ### zip(list, list), lists that never change -/
def zipLD : List D → List D → List D
  | c :: cs, d :: ds => .tup [c, d] :: zipLD cs ds
  | _, _ => []
theorem zipLD_len : ∀ (cs : List D) (ds : List D), (zipLD cs ds).length = min cs.length ds.length
  | [], _ => by simp [zipLD]
  | _ :: _, [] => by simp [zipLD]
  | c :: cs, d :: ds => by simp [zipLD, zipLD_len cs ds]
theorem zipLD_get : ∀ (cs : List D) (ds : List D) (i : Nat) (e : D), (zipLD cs ds)[i]? = some e → ∃ c d, cs[i]? = some c ∧ ds[i]? = some d ∧ e = .tup [c, d]
  | [], _, _, _, h => by simp [zipLD] at h
  | _ :: _, [], _, _, h => by simp [zipLD] at h
  | c :: cs, d :: ds, 0, e, h => by
    simp [zipLD] at h
    exact ⟨c, d, rfl, rfl, h.symm⟩
  | c :: cs, d :: ds, i + 1, e, h => by
    simp only [zipLD, List.getElem?_cons_succ] at h ⊢
    exact zipLD_get cs ds i e h
def iZip (f1 f2 : E) : A := fun δ S => (f1 δ S).bind fun p => (f2 δ p.2).bind fun q => (seqP p.1).bind fun xs => (seqP q.1).bind fun ys => some (zipLD xs ys, q.2)
theorem ri_zip {elts : List Expr} {kk : Nat} {tpos p : Pos} (hg : Gl X "zip") (hm : X.mg "zip" = none) (h1 : RE X C a ta fa) (h2 : RE X C b tb fb) (hs : starEach [a, b] X.env = (false, eval a X.env) :: starEach [b] X.env := by rfl) (hs2 : starEach [b] X.env = [(false, eval b X.env)] := by rfl) (hpl : (backTo pos (starEach [b] X.env)).any (·.1) = false := by rfl) :
    RI X C (.Tuple elts kk tpos) (.Call (.Name "zip" p) [a, b] [] pos) (RZ.iZipA X.K (tCons ta (tCons tb tNil))) (iZip fa fb) :=
  ⟨RZ.pi_zipA hg hm (pa_cons h1.p (pa_cons h2.p pa_nil hs2) hs) hs hpl, fun m σ H δ S items S' R er sr hf q => by
    unfold iZip at hf
    obtain ⟨⟨d1, S1⟩, q1, hf⟩ := Option.bind_eq_some_iff.mp hf
    obtain ⟨⟨d2, S2⟩, q2, hf⟩ := Option.bind_eq_some_iff.mp hf
    obtain ⟨xs, q3, hf⟩ := Option.bind_eq_some_iff.mp hf
    obtain ⟨ys, q4, hf⟩ := Option.bind_eq_some_iff.mp hf
    cases hf
    refine h1.s m σ H δ S _ S1 _ er sr q1 fun v m1 H1 e1 s1 r1 => ?_
    refine h2.s m1 σ H1 δ S1 _ S2 _ (er.ev e1) s1 q2 fun u m2 H2 e2 s2 r2 => ?_
    obtain ⟨pa, va, ea, ka, ra⟩ := rp_seqP (r1.ev e2) q3
    obtain ⟨pb, vb, eb, kb, rb⟩ := rp_seqP r2 q4
    subst ea; subst eb
    refine ⟨pa, pb, va, vb, rfl, .inl ⟨ka _ _ (.of .refl), kb _ _ (.of .refl), q _ m2 H2 (e1.trans e2) s2 fun m3 H3 S3 e3 s3 => ?_⟩⟩
    have hl := ra.length
    have hl2 := rb.length
    have hle := zipLD_len xs ys
    refine ⟨fun i hi => ?_, ⟨va, vb, ka _ _ e3, kb _ _ e3, by omega⟩, fun i d v H' hd y => ?_⟩
    · obtain ⟨x, hx⟩ := lt_get (l := va) (i := i) (by omega)
      obtain ⟨y, hy⟩ := lt_get (l := vb) (i := i) (by omega)
      exact ⟨va, vb, x, y, ka _ _ e3, kb _ _ e3, hx, hy⟩
    · obtain ⟨T, x, y, ev, hT, eH, y1, y2⟩ := y
      subst ev; subst eH
      obtain ⟨c', d', hc', hd', ed⟩ := zipLD_get _ _ _ _ hd
      subst ed
      obtain ⟨v1, hv1, rv1⟩ := ra.get hc'
      obtain ⟨v2, hv2, rv2⟩ := rb.get hd'
      have t1 := y1 va (ka _ _ e3)
      have t2 := y2 vb (kb _ _ e3)
      rw [hv1] at t1
      rw [hv2] at t2
      cases t1
      cases t2
      exact ⟨.lay hT, s3.lay hT, .tup (.of upd_same) (.cons ((rv1.evH e3).ev (.lay hT)) (.cons ((rv2.evH e3).ev (.lay hT)) .nil))⟩⟩
end
end Cb
namespace Cb
open PySem PySem.Spec PyProof.Rows L2

/-! ### sorted(list of texts) -/
def leS (a b : Str) : Bool := !ltCps b.cps.toList a.cps.toList
theorem leS_iff (a b : Str) : leS a b = true ↔ a.cps.toList ≤ b.cps.toList := by
  unfold leS
  rw [ltCps_eq]
  simp [List.not_lt]
theorem str_ext {a b : Str} (h : a.cps.toList = b.cps.toList) : a = b := by
  obtain ⟨a⟩ := a
  obtain ⟨b⟩ := b
  have : a = b := by
    apply Array.ext'
    exact h
  rw [this]
theorem leS_anti {a b : Str} (h1 : leS a b = true) (h2 : leS b a = true) : a = b := str_ext (List.le_antisymm ((leS_iff _ _).mp h1) ((leS_iff _ _).mp h2))
theorem leS_trans (a b c : Str) (h1 : leS a b = true) (h2 : leS b c = true) : leS a c = true := (leS_iff _ _).mpr (List.le_trans ((leS_iff _ _).mp h1) ((leS_iff _ _).mp h2))
theorem leS_total (a b : Str) : (leS a b || leS b a) = true := by
  rw [Bool.or_eq_true, leS_iff, leS_iff]
  exact List.le_total _ _
def sortS (l : List Str) : List Str := l.mergeSort leS
theorem sortS_perm (l : List Str) : (sortS l).Perm l := List.mergeSort_perm l leS
theorem sortS_pw (l : List Str) : (sortS l).Pairwise fun a b => leS a b = true := List.pairwise_mergeSort leS_trans leS_total l
theorem sortedS_pw : ∀ {l : List Str}, sortedS l = true → l.Pairwise fun a b => leS a b = true
  | [], _ => .nil
  | [x], _ => by simp
  | x :: y :: r, h => by
    have h : (leS x y && risingS y r) = true := h
    rw [Bool.and_eq_true] at h
    have ih := sortedS_pw (l := y :: r) h.2
    refine List.pairwise_cons.mpr ⟨fun z hz => ?_, ih⟩
    rcases List.mem_cons.mp hz with q | q
    · rw [q]; exact h.1
    · exact leS_trans x y z h.1 ((List.pairwise_cons.mp ih).1 z q)
theorem sortS_eq {l ys : List Str} (hp : ys.Perm l) (hs : sortedS ys = true) : ys = sortS l :=
  List.Perm.eq_of_pairwise (fun a b _ _ => leS_anti) (sortedS_pw hs) (sortS_pw l) (hp.trans (sortS_perm l).symm)
def strL : List D → Option (List Str)
  | [] => some []
  | .str x :: r => (strL r).bind fun l => some (x :: l)
  | _ :: _ => none
theorem strL_rp {K : PySem.W.Frag} {m : M} {H : Hp} : ∀ {vs : List V} {ds : List D} {xs : List Str}, RpAll K m H vs ds → strL ds = some xs → vs = xs.map V.str
  | _, _, _, .nil, h => by cases h; rfl
  | _, _, _, .cons (d := .str x) r rs, h => by
    unfold strL at h
    obtain ⟨l, h1, h⟩ := Option.bind_eq_some_iff.mp h
    cases h
    cases r
    rw [strL_rp rs h1]
    rfl
  | _, _, _, .cons (d := .non) r rs, h => by simp [strL] at h
  | _, _, _, .cons (d := .bl _) r rs, h => by simp [strL] at h
  | _, _, _, .cons (d := .int _) r rs, h => by simp [strL] at h
  | _, _, _, .cons (d := .tup _) r rs, h => by simp [strL] at h
  | _, _, _, .cons (d := .lst _) r rs, h => by simp [strL] at h
  | _, _, _, .cons (d := .scr _) r rs, h => by simp [strL] at h
  | _, _, _, .cons (d := .dic _) r rs, h => by simp [strL] at h
  | _, _, _, .cons (d := .ref _) r rs, h => by simp [strL] at h
section
variable {X : Cx} {C : Addr} {pos : Pos} {a b c e tg iter : Expr} {es : List Expr} {ta tb tc te : TE} {tA : TA} {fa fb fc f : E} {g : A}
def blSort : Bl := fun ds S => match ds with
  | [d] => (seqL S d).bind fun xs => (strL xs).bind fun l => if l.length < 64 then some ((sortS l).map .str) else none
  | _ => none
theorem s_sort {K : PySem.W.Frag} : ClSem C K (rSortedS K) blSort := fun m H xs ds S d Q r sr hf q => by
  unfold blSort at hf
  split at hf
  · obtain ⟨ys, h1, hf⟩ := Option.bind_eq_some_iff.mp hf
    obtain ⟨l, h2, hf⟩ := Option.bind_eq_some_iff.mp hf
    split at hf
    · rename_i h64
      cases hf
      cases r with
      | cons r1 rr =>
        cases rr
        obtain ⟨a, vs, e, h3, h4⟩ := rp_seqL sr r1 h1
        subst e
        have ev := strL_rp h4 h2
        subst ev
        exact ⟨a, l, rfl, h3, h64, fun zs p hz hs hp => by rw [sortS_eq hz hs]; exact q p _ hp (.strs _)⟩
    · cases hf
  · cases hf
theorem rl_sorted {p : Pos} (hg : Gl X "sorted") (hm : X.mg "sorted" = none) (ha : RA X C (e :: es) tA g) (he : starEach (e :: es) X.env = (false, eval e X.env) :: starEach es X.env := by rfl) (hpl : (backTo pos (starEach es X.env)).any (·.1) = false := by rfl) :
    RL X C (.Call (.Name "sorted" p) (e :: es) [] pos) (tCB (rSortedS X.K) tA) (lBi blSort g) := rl_callB cr_sortedS s_sort hg hm (by decide +kernel) ha (by decide) (by decide) he hpl
end
end Cb
namespace Cb
open PySem PySem.Spec PyProof.Rows L2

section
variable {X : Cx} {C : Addr} {pos : Pos} {a b c e tg iter : Expr} {es : List Expr} {ta tb tc te : TE} {tA : TA} {fa fb fc f : E} {g : A} {t1 : TS} {b1 : B}
/-! ### for, over a changing list as it stands at each turn -/
def forR (gd : G) (b : B) (k : Nat) : Nat → Nat → Sl → List O → Option Out
  | 0, _, _, _ => none
  | n + 1, i, δ, S => match S[k]? with
    | some (.lst xs) => match xs[i]? with
      | none => some (.nx δ S)
      | some d => (gd d δ).bind fun δ1 => (b δ1 S).bind fun o => match o with
        | .nx δ2 S2 => forR gd b k n (i + 1) δ2 S2
        | .ct δ2 S2 => forR gd b k n (i + 1) δ2 S2
        | .bk δ2 S2 => some (.nx δ2 S2)
        | .rt d S2 => some (.rt d S2)
    | _ => none
def sForR (f : E) (gd : G) (b : B) : B := fun δ S => (f δ S).bind fun p => match p.1 with | .ref k => forR gd b k big 0 δ p.2 | _ => none
theorem s_forR {K : PySem.W.Frag} {gt : TG} {gd : G} {vs : List Nat} (he : ESem C K te f) (hg : GSem C K gt gd vs) (hb : SSem C K t1 b1) : SSem C K (tFor (iList K te) gt t1) (sForR f gd b1) := fun m σ H δ S o Z er sr hf q => by
  unfold sForR at hf
  obtain ⟨⟨d1, S1⟩, q1, hf⟩ := Option.bind_eq_some_iff.mp hf
  split at hf
  · rename_i k hk
    have hk : d1 = .ref k := hk
    subst hk
    refine he m σ H δ S _ S1 _ er sr q1 fun v m1 H1 e1 s1 r1 => ?_
    cases r1 with
    | @ref p _ hn =>
      have hS1 : ∃ ds, S1[k]? = some (.lst ds) := by
        unfold big at hf
        unfold forR at hf
        split at hf
        · rename_i xs hx; exact ⟨xs, hx⟩
        · cases hf
      obtain ⟨ds1, hd1⟩ := hS1
      obtain ⟨ys1, hy1, _⟩ := s1.obj _ _ _ hn hd1
      refine ⟨p, rfl, ⟨ys1, .of hy1⟩, ?_⟩
      refine ⟨fun i n σc Hc => ∃ mc δc Sc, Ev m1 H1 mc Hc ∧ ER K mc Hc σc δc ∧ SR C K mc Hc Sc ∧ mc.l[k]? = some p ∧ forR gd b1 k n i δc Sc = some o, ⟨big, m1, δ, S1, .refl, er.ev e1, s1, hn, hf⟩, ?_⟩
      rintro i n σc Hc ⟨mc, δc, Sc, ec, erc, sc, hp, hl⟩
      cases n with
      | zero => cases hl
      | succ n =>
        unfold forR at hl
        split at hl
        · rename_i xs hx
          obtain ⟨ys, hy, ry⟩ := sc.obj _ _ _ hp hx
          have hlen := ry.length
          split at hl
          · rename_i hnone
            cases hl
            have := List.getElem?_eq_none_iff.mp hnone
            exact .inl ⟨⟨ys, .of hy, by omega⟩, q mc σc Hc (e1.trans ec) erc sc⟩
          · rename_i d hd
            obtain ⟨v, hv, rv⟩ := ry.get hd
            obtain ⟨δ1, g1, hl⟩ := Option.bind_eq_some_iff.mp hl
            obtain ⟨o1, c1, hl⟩ := Option.bind_eq_some_iff.mp hl
            refine .inr ⟨⟨ys, v, .of hy, hv⟩, fun σ' H' => ∃ mc δc Sc, Ev m1 H1 mc H' ∧ ER K mc H' σ' δc ∧ SR C K mc H' Sc ∧ mc.l[k]? = some p ∧ forR gd b1 k n (i + 1) δc Sc = some o, fun σ' H' h => ⟨n, Nat.lt_succ_self _, h⟩, fun x Hx y => ?_⟩
            obtain ⟨ey, y2⟩ := y
            subst ey
            have := y2 ys (.of hy)
            rw [hv] at this
            cases this
            refine hg mc σc _ δc Sc v d δ1 _ erc sc rv g1 fun σ1 er1 _ => ?_
            refine hb mc σ1 _ δ1 Sc o1 _ er1 sc c1 ?_
            cases o1 with
            | nx δ2 S2 => exact fun m2 σ2 H2 e2 er2 s2 => ⟨m2, δ2, S2, ec.trans e2, er2, s2, e2.at hp, hl⟩
            | ct δ2 S2 => exact fun m2 σ2 H2 e2 er2 s2 => ⟨m2, δ2, S2, ec.trans e2, er2, s2, e2.at hp, hl⟩
            | bk δ2 S2 => cases hl; exact fun m2 σ2 H2 e2 er2 s2 => q m2 σ2 H2 (e1.trans (ec.trans e2)) er2 s2
            | rt d S2 => cases hl; exact fun v m2 H2 e2 s2 r2 => q v m2 H2 (e1.trans (ec.trans e2)) s2 r2
        · cases hl
  · cases hf
theorem rs_forR {body : List Stmt} {gt : TG} {gd : G} {vs : List Nat} (hp : PassesOwn (model X.prog X.w) X.A X.env X.xe) (hc : X.calm = true) (hi : RE X C iter te f) (hg : RG X C tg gt gd vs) (hb : RSs X C body t1 b1)
    (hs : ∀ x, foldedSetIterable iter X.env x = pure x := by intro _; rfl) : RS X C (.For tg iter body [] pos) (tFor (iList X.K te) gt t1) (sForR f gd b1) := ⟨ps_for hp hc (pi_list hi.p) hg.p hb.p hs, s_forR hi.s hg.s hb.s⟩
/-! ### over a list that never changes, or a tuple -/
def iBoth (K : PySem.W.Frag) (tl : TE) : TI := fun σ H R => tl σ H fun x H1 => ∃ a, x = .ref a ∧ (((∃ xs, SqL K H1 a xs) ∧ R (Itl K a) H1) ∨ ((∃ xs, SqT K H1 a xs) ∧ R (Itt K a) H1))
theorem pi_both {l : Expr} {tl : TE} (hl : PE X l tl) : PI X tg l (iBoth X.K tl) := by
  refine ⟨fun pins s σ H R I h => ?_⟩
  refine thn (hl.run pins s σ H _ I h) fun v s1 ⟨x, H1, I1, r1, q1⟩ => ?_
  obtain ⟨a, e, q⟩ := q1
  subst e
  cases r1
  rcases q with ⟨⟨xs, hq⟩, q⟩ | ⟨⟨xs, hq⟩, q⟩
  · obtain ⟨its, rv, p, hz⟩ := I1.list hq
    refine wpAny_pyIter_list p.isList ?_
    refine ⟨s1.heap.objs.size, [s1.heap.objs.size], _, _, H1, rfl, I1.kept (t' := s1.toks) fun b o e => Heap.get?_push_of_some _ e, turn_list a _, ⟨_, Heap.get?_push_size _ rfl, rfl, rfl⟩, fun b hb => ?_, q⟩
    have e : b = s1.heap.objs.size := by simpa using hb
    subst e
    exact I1.fpOk (Nat.le_refl _) (I1.hok.fresh (Nat.le_refl _))
  · obtain ⟨its, rv, p, hz⟩ := I1.tuple hq
    refine wpAny_pyIter_tuple (show s1.heap.IsTuple a its.toArray from p) ?_
    refine ⟨s1.heap.objs.size, [s1.heap.objs.size], _, _, H1, rfl, I1.kept (t' := s1.toks) fun b o e => Heap.get?_push_of_some _ e, turn_tuple a _, ⟨_, Heap.get?_push_size _ rfl, rfl, rfl⟩, fun b hb => ?_, q⟩
    have e : b = s1.heap.objs.size := by simpa using hb
    subst e
    exact I1.fpOk (Nat.le_refl _) (I1.hok.fresh (Nat.le_refl _))
def seqB : D → Option (List D)
  | .tup xs => some xs
  | d => seqP d
def iBothD (f : E) : A := fun δ S => (f δ S).bind fun p => (seqB p.1).bind fun ds => some (ds, p.2)
theorem ri_both (he : RE X C e te f) : RI X C tg e (iBoth X.K te) (iBothD f) := ⟨pi_both he.p, fun m σ H δ S items S' R er sr hf q => by
  unfold iBothD at hf
  obtain ⟨⟨d1, S1⟩, q1, hf⟩ := Option.bind_eq_some_iff.mp hf
  obtain ⟨ds, q2, hf⟩ := Option.bind_eq_some_iff.mp hf
  cases hf
  refine he.s m σ H δ S d1 S1 _ er sr q1 fun v m1 H1 e1 s1 r1 => ?_
  by_cases ht : ∃ xs, d1 = .tup xs
  · obtain ⟨zs, rfl⟩ := ht
    have q3 : zs = items := Option.some.inj q2
    subst q3
    cases r1 with
    | @tup a xs _ h4 h5 =>
      refine ⟨a, rfl, .inr ⟨⟨xs, h4⟩, q _ m1 H1 e1 s1 fun m2 H2 S2 e2 s2 => ?_⟩⟩
      have hl := h5.length
      refine ⟨fun i hi => ?_, ⟨xs, e2.ev.sqT h4, by omega⟩, fun i d x H' hd y => ?_⟩
      · obtain ⟨x, hx⟩ := lt_get (l := xs) (i := i) (by omega)
        exact ⟨xs, x, e2.ev.sqT h4, hx⟩
      · obtain ⟨ey, y2⟩ := y
        subst ey
        obtain ⟨v, hv, rv⟩ := h5.get hd
        have := y2 xs (e2.ev.sqT h4)
        rw [hv] at this
        cases this
        exact ⟨.refl, s2, rv.evH e2⟩
  · have q2 : seqP d1 = some items := by
      cases d1 with
      | tup xs => exact absurd ⟨xs, rfl⟩ ht
      | _ => exact q2
    obtain ⟨a, xs, ee, h4, h5⟩ := rp_seqP r1 q2
    subst ee
    refine ⟨a, rfl, .inl ⟨⟨xs, h4 _ _ (.of .refl)⟩, q _ m1 H1 e1 s1 fun m2 H2 S2 e2 s2 => ?_⟩⟩
    have hl := h5.length
    refine ⟨fun i hi => ?_, ⟨xs, h4 _ _ e2, by omega⟩, fun i d x H' hd y => ?_⟩
    · obtain ⟨x, hx⟩ := lt_get (l := xs) (i := i) (by omega)
      exact ⟨xs, x, h4 _ _ e2, hx⟩
    · obtain ⟨ey, y2⟩ := y
      subst ey
      obtain ⟨v, hv, rv⟩ := h5.get hd
      have := y2 xs (h4 _ _ e2)
      rw [hv] at this
      cases this
      exact ⟨.refl, s2, rv.evH e2⟩⟩
end
end Cb
namespace Cb
open PySem PySem.Spec PyProof.Rows L2

/-! ## instances of a class of the program -/
def putFD (f : Str) (v : D) : List (Str × D) → List (Str × D)
  | [] => [(f, v)]
  | (g, x) :: r => if g = f then (g, v) :: r else (g, x) :: putFD f v r
theorem put_keys {gs : List (Str × V)} {f : Str} {v : V} {d : D} : ∀ {fs : List (Str × D)}, gs.map (·.1) = fs.map (·.1) → (putF f v gs).map (·.1) = (putFD f d fs).map (·.1) := by
  induction gs with
  | nil =>
    intro fs h
    cases fs with
    | nil => rfl
    | cons _ _ => simp at h
  | cons g gs ih =>
    intro fs h
    cases fs with
    | nil => simp at h
    | cons h' fs =>
      obtain ⟨a, x⟩ := g
      obtain ⟨b, y⟩ := h'
      simp only [List.map_cons, List.cons.injEq] at h
      obtain ⟨h1, h2⟩ := h
      have h1 : a = b := h1
      subst h1
      simp only [putF, putFD]
      split
      · simp [h2]
      · simp [ih h2]
theorem put_vals {K : PySem.W.Frag} {m : M} {H : Hp} {f : Str} {v : V} {d : D} (r : Rp K m H v d) : ∀ {gs : List (Str × V)} {fs : List (Str × D)}, gs.map (·.1) = fs.map (·.1) → RpAll K m H (gs.map (·.2)) (fs.map (·.2)) → RpAll K m H ((putF f v gs).map (·.2)) ((putFD f d fs).map (·.2))
  | [], [], _, _ => .cons r .nil
  | [], _ :: _, h, _ => by simp at h
  | _ :: _, [], h, _ => by simp at h
  | (a, x) :: gs, (b, y) :: fs, h, q => by
    simp only [List.map_cons, List.cons.injEq] at h
    obtain ⟨h1, h2⟩ := h
    have h1 : a = b := h1
    subst h1
    cases q with
    | cons q1 q2 =>
      simp only [putF, putFD]
      split
      · exact .cons r q2
      · exact .cons q1 (put_vals r h2 q2)
theorem lookup_vals {K : PySem.W.Frag} {m : M} {H : Hp} {f : Str} : ∀ {gs : List (Str × V)} {fs : List (Str × D)}, gs.map (·.1) = fs.map (·.1) → RpAll K m H (gs.map (·.2)) (fs.map (·.2)) →
    (fs.lookup f = none → gs.lookup f = none) ∧ ∀ d, fs.lookup f = some d → ∃ v, gs.lookup f = some v ∧ Rp K m H v d
  | [], [], _, _ => ⟨fun _ => rfl, fun d h => by simp at h⟩
  | [], _ :: _, h, _ => by simp at h
  | _ :: _, [], h, _ => by simp at h
  | (a, x) :: gs, (b, y) :: fs, h, q => by
    simp only [List.map_cons, List.cons.injEq] at h
    obtain ⟨h1, h2⟩ := h
    have h1 : a = b := h1
    subst h1
    cases q with
    | cons q1 q2 =>
      obtain ⟨i1, i2⟩ := lookup_vals (f := f) h2 q2
      simp only [List.lookup_cons]
      cases hb : f == a with
      | true => exact ⟨(fun z => nomatch z), fun d hd => by cases hd; exact ⟨x, rfl, q1⟩⟩
      | false => exact ⟨i1, i2⟩
def insS (S : List O) : D → Option (List (Str × D))
  | .ref n => match S[n]? with | some (.ins fs) => some fs | _ => none
  | _ => none
theorem rp_ins {C : Addr} {K : PySem.W.Frag} {m : M} {H : Hp} {S : List O} {v : V} {d : D} {fs : List (Str × D)} (s : SR C K m H S) (r : Rp K m H v d) (h : insS S d = some fs) :
    ∃ n a dx gs, d = .ref n ∧ S[n]? = some (.ins fs) ∧ m.l[n]? = some a ∧ v = .ref a ∧ H a = some (.ins C dx gs) ∧ gs.map (·.1) = fs.map (·.1) ∧ RpAll K m H (gs.map (·.2)) (fs.map (·.2)) := by
  cases r with
  | @ref a n hn =>
    have h : (match S[n]? with | some (O.ins fs) => some fs | _ => none) = some fs := h
    split at h
    · rename_i xs hs
      cases h
      obtain ⟨dx, gs, h1, h2, h3⟩ := s.obj _ _ _ hn hs
      exact ⟨n, a, dx, gs, rfl, hs, hn, rfl, h1, h2, h3⟩
    · cases h
  | _ => cases h
section
variable {X : Cx} {C : Addr} {pos : Pos} {a b c e tg iter : Expr} {es : List Expr} {ta tb tc te : TE} {tA : TA} {fa fb fc f : E} {g : A}
/-- o.f -/
def eFld (nm : Str) (fo : E) : E := fun δ S => (fo δ S).bind fun o => (insS o.2 o.1).bind fun fs => (fs.lookup nm).bind fun d => some (d, o.2)
theorem re_fld {nm : Str} (cl : Cls X.K C) (n : NoAttr X.K C nm) (he : RE X C e te f) (hb : attributeBase e nm X.env (eval e X.env) = eval e X.env := by rfl) : RE X C (.Attribute e nm pos) (tFld X.K te nm) (eFld nm f) :=
  ⟨pe_fld he.p hb, fun m σ H δ S d S' Q er sr hf q => by
    unfold eFld at hf
    obtain ⟨⟨d1, S1⟩, q1, hf⟩ := Option.bind_eq_some_iff.mp hf
    obtain ⟨fs, q2, hf⟩ := Option.bind_eq_some_iff.mp hf
    obtain ⟨d2, q3, hf⟩ := Option.bind_eq_some_iff.mp hf
    cases hf
    refine he.s m σ H δ S d1 S1 _ er sr q1 fun v m1 H1 e1 s1 r1 => ?_
    obtain ⟨n', a', dx, gs, _, _, _, ev, h1, h2, h3⟩ := rp_ins s1 r1 q2
    subst ev
    obtain ⟨v, h4, h5⟩ := (lookup_vals (f := nm) h2 h3).2 _ q3
    exact ⟨a', C, dx, gs, v, rfl, h1, cl, n, h4, q v m1 H1 e1 s1 h5⟩⟩
/-- o.f = e -/
def sFldS (nm : Str) (fv fo : E) : B := fun δ S => (fv δ S).bind fun v => (fo δ v.2).bind fun o => (setO o.2 o.1 fun ob => match ob with | .ins fs => if fs.length < 1000 then some (.ins (putFD nm v.1 fs)) else none | _ => none).bind fun S' => some (.nx δ S')
theorem rs_fld {nm : Str} {pos' : Pos} (cl : Cls X.K C) (n : NoAttr X.K C nm) (hv : RE X C e te f) (ho : RE X C a ta fa) (hs : swapsWith e (some (.Attribute a nm pos')) pos.line X.env = pure false := by rfl) :
    RS X C (.Assign [.Attribute a nm pos'] e pos) (sFld X.K ta te nm) (sFldS nm f fa) := ⟨ps_fld ho.p hv.p hs, fun m σ H δ S o Z er sr hf q => by
  unfold sFldS at hf
  obtain ⟨⟨d1, S1⟩, q1, hf⟩ := Option.bind_eq_some_iff.mp hf
  obtain ⟨⟨d2, S2⟩, q2, hf⟩ := Option.bind_eq_some_iff.mp hf
  obtain ⟨S3, q3, hf⟩ := Option.bind_eq_some_iff.mp hf
  cases hf
  refine hv.s m σ H δ S d1 S1 _ er sr q1 fun v m1 H1 e1 s1 r1 => ?_
  refine ho.s m1 σ H1 δ S1 d2 S2 _ (er.ev e1) s1 q2 fun u m2 H2 e2 s2 r2 => ?_
  obtain ⟨n', ob, ob', ed, q5, q6, eS⟩ := setO_inv q3
  have ed : d2 = .ref n' := ed
  subst ed
  subst eS
  dsimp only at q6
  split at q6
  · split at q6
    · rename_i fs hl
      cases q6
      have hi : insS S2 (.ref n') = some fs := by
        have q5 : S2[n']? = some (O.ins fs) := q5
        show (match S2[n']? with | some (O.ins fs) => some fs | _ => none) = some fs
        rw [q5]
      obtain ⟨n2, p, dx, gs, en, _, hn, ev, h1, h2, h3⟩ := rp_ins s2 r2 hi
      cases en
      subst ev
      obtain ⟨_, hu, ht, hf⟩ := s2.nottup (List.mem_of_getElem? hn)
      have es : Ev m2 H2 m2 (upd H2 p (.ins C dx (putF nm v gs))) := .set (List.mem_of_getElem? hn) hu ht hf
      have hlen : gs.length = fs.length := by simpa using congrArg List.length h2
      refine ⟨p, C, dx, gs, rfl, h1, cl, n, by rw [hlen]; exact hl, ?_⟩
      exact q m2 σ _ (e1.trans (e2.trans es)) (er.ev (e1.trans (e2.trans es))) (s2.put hn ⟨dx, _, upd_same, put_keys h2, (put_vals (r1.ev e2) h2 h3).ev es⟩)
    · cases q6
  · cases q6⟩
/-- a method of the class: at its promise -/
structure CalM (P : Program) (w : World) (K : PySem.W.Frag) (mg : Str → Option Value) (base : Heap) (C : Addr) (k : Nat) (x : Str) (n : Nat) (F : Fn) : Prop where
  ex : ∃ (f : Addr) (fd : FuncData) (ps : List Str), FnOk P w K mg base CX0 k f fd ps (spF C K n F) ∧ Binds K fd ps [] ∧ Meth K C x f
/-- the making: never, or with room for it -/
structure CalI (P : Program) (w : World) (K : PySem.W.Frag) (mg : Str → Option Value) (base : Heap) (C : Addr) (k : Nat) (F : Fn) : Prop where
  ex : (F = fun _ _ => none) ∨ ∃ (j : Nat) (f : Addr) (fd : FuncData) (ps : List Str), j + 1 ≤ k ∧ FnOk P w K mg base CX0 j f fd ps (spF C K 1 F) ∧ Binds K fd ps [] ∧ Mk K C f
/-- o.m(..) -/
def eMeth (mt : Str) (n : Nat) (F : Fn) (fo : E) (g : A) : E := fun δ S => (fo δ S).bind fun o => (insS o.2 o.1).bind fun fs => if fs.lookup mt = none then (g δ o.2).bind fun p => if p.1.length + 1 = n then F (o.1 :: p.1) p.2 else none else none
theorem re_meth {pl : Sem Bool} {k n : Nat} {mt : Str} {F : Fn} {apos : Pos} (cl : Cls X.K C) (cal : CalM X.prog X.w X.K X.mg X.base C k mt n F) (hr : Room k X.A) (ho : RE X C a ta fa) (ha : RA X C (e :: es) tA g)
    (hst : starEach (e :: es) X.env = (false, eval e X.env) :: starEach es X.env := by rfl) (hpl : (backTo pos (starEach es X.env)).any (·.1) = false := by rfl)
    (ht : eval (.Call (.Attribute a mt apos) (e :: es) [] pos) X.env = (do
      let ov ← eval a X.env
      standAt apos.atName
      let (f, first) ← holding [ov] (getMethod ov mt pl)
      callWith pos f first (backTo pos (starEach (e :: es) X.env)) (backToKw pos (keywordEach [] X.env))) := by rfl) :
    RE X C (.Call (.Attribute a mt apos) (e :: es) [] pos) (tMeth C mt (spF C X.K n F) [] E0 ta tA) (eMeth mt n F fa g) := by
  obtain ⟨f, fd, ps, F', bd, hm⟩ := cal.ex
  refine ⟨pe_meth (pl := pl) ho.p cl hm F' hr bd .nil pass0 ha.p hst hpl ht, fun m σ H δ S d S' Q er sr hf q => ?_⟩
  unfold eMeth at hf
  obtain ⟨⟨d1, S1⟩, q1, hf⟩ := Option.bind_eq_some_iff.mp hf
  obtain ⟨fs, q2, hf⟩ := Option.bind_eq_some_iff.mp hf
  split at hf
  · rename_i hlk
    obtain ⟨⟨ds, S2⟩, q3, hf⟩ := Option.bind_eq_some_iff.mp hf
    split at hf
    · rename_i hl
      refine ho.s m σ H δ S d1 S1 _ er sr q1 fun v m1 H1 e1 s1 r1 => ?_
      obtain ⟨n', a', dx, gs, _, _, _, ev, h1, h2, h3⟩ := rp_ins s1 r1 q2
      have h4 := (lookup_vals (f := mt) h2 h3).1 hlk
      refine ⟨a', dx, gs, ev, h1, h4, ?_⟩
      refine ha.s m1 σ H1 δ S1 ds S2 _ (er.ev e1) s1 q3 fun vs m2 H2 e2 s2 r2 => ?_
      rw [List.append_nil]
      refine ⟨by rw [List.length_cons, r2.length]; exact hl, m2, S2, d1 :: ds, d, S', .cons (r1.ev e2) r2, s2, hf, fun v m3 H3 e3 s3 r3 => q v m3 H3 (e1.trans (e2.trans e3)) s3 r3⟩
    · cases hf
  · cases hf
/-- C(): a new instance -/
def eFresh (F : Fn) : E := fun _ S => (F [.ref S.length] (S ++ [.ins []])).bind fun p => match p.1 with | .non => some (.ref S.length, p.2) | _ => none
theorem re_fresh {k : Nat} {x : Str} {F : Fn} {p : Pos} (cal : CalI X.prog X.w X.K X.mg X.base C k F) (hr : Room k X.A) (hg : Gl X x) (hm : X.mg x = some (.ref C)) (hdb : (x == ("__debug__" : Str)) = false := by decide) :
    RE X C (.Call (.Name x p) [] [] pos) (cE C X.K (eFresh F)) (eFresh F) := by
  refine ⟨?_, fun m σ H δ S d S' Q er sr hf q => ⟨m, δ, S, d, S', er, sr, hf, q⟩⟩
  rcases cal.ex with h | ⟨j, f, fd, ps, hj, F', bd, mk⟩
  · refine ⟨fun pins s σ H Q I ⟨m, δ, S, d, S', er, sr, hf, q⟩ => ?_⟩
    subst h
    cases hf
  · have pe := pe_make0 (pos := pos) (p := p) mk F' (hr.mono hj) hg hm bd .nil pass0 hdb
    refine ⟨fun pins s σ H Q I ⟨m, δ, S, d, S', er, sr, hf, q⟩ => pe.run pins s σ H Q I ?_⟩
    unfold eFresh at hf
    obtain ⟨⟨d1, S1⟩, q1, hf⟩ := Option.bind_eq_some_iff.mp hf
    split at hf
    · rename_i hk
      have hk : d1 = .non := hk
      subst hk
      cases hf
      show ∀ x dx, H x = none → H dx = none → dx ≠ x → _
      intro x dx hx hdx hne
      have hx1 : upd H dx (.own x) x = none := by rw [upd_ne (fun z => hne z.symm)]; exact hx
      have e1 : Ev m H m (upd H dx (.own x)) := .lay hdx
      have s1 := sr.lay (o := .own x) hdx
      have e2 : Ev m (upd H dx (.own x)) (m.add x) (upd (upd H dx (.own x)) x (.ins C dx [])) := .layM hx1
      have s2 : SR C X.K (m.add x) (upd (upd H dx (.own x)) x (.ins C dx [])) (S ++ [.ins []]) := s1.layM hx1 ⟨dx, [], upd_same, rfl, .nil⟩
      have hat : (m.add x).l[S.length]? = some x := by
        have : m.l.length = S.length := sr.len
        rw [← this]
        exact at_snoc
      refine ⟨rfl, m.add x, S ++ [.ins []], [.ref S.length], .non, _, .cons (.ref hat) .nil, s2, q1, fun v m' H' e' s' r' => ?_⟩
      cases r'
      exact ⟨rfl, q _ m' H' (e1.trans (e2.trans e')) s' (Rp.ev e' (.ref hat))⟩
    · cases hf
end
end Cb
namespace Cb
open PySem L2
section
variable {C : Addr} {K : PySem.W.Frag}
/-! ## all(list of bools), sum(list of ints) -/
def blsD : List D → Option (List Bool)
  | [] => some []
  | .bl b :: ds => (blsD ds).map (b :: ·)
  | _ => none
theorem rp_bls {m : M} {H : Hp} : ∀ {ds : List D} {bs : List Bool} {vs : List V}, blsD ds = some bs → RpAll K m H vs ds → vs = bs.map V.bl
  | [], _, _, h, .nil => by cases h; rfl
  | d :: ds, bs, _, h, .cons r rs => by
    cases d with
    | bl b =>
      obtain ⟨bs', h1, h2⟩ := Option.map_eq_some_iff.mp h
      subst h2
      cases r
      rw [rp_bls h1 rs]
      rfl
    | _ => cases h
def bAll : Bi := fun ds S => match ds with
  | [d] => (seqL S d).bind fun xs => (blsD xs).bind fun bs => some (.bl (bs.all id))
  | _ => none
theorem s_all : CSem C K (rAll K) bAll := fun m H xs ds S d Q r sr hf q => by
  unfold bAll at hf
  split at hf
  · obtain ⟨ys, h1, h2⟩ := Option.bind_eq_some_iff.mp hf
    obtain ⟨bs, h3, h2⟩ := Option.bind_eq_some_iff.mp h2
    cases h2
    cases r with
    | cons r1 rr =>
      cases rr
      obtain ⟨a, zs, ee, h4, h5⟩ := rp_seqL sr r1 h1
      subst ee
      rw [rp_bls h3 h5] at h4
      exact ⟨_, _, rfl, h4, q _ m H .refl sr (.bl _)⟩
  · cases hf
def intsD : List D → Option (List Int)
  | [] => some []
  | .int b :: ds => (intsD ds).map (b :: ·)
  | _ => none
theorem rp_ints {m : M} {H : Hp} : ∀ {ds : List D} {bs : List Int} {vs : List V}, intsD ds = some bs → RpAll K m H vs ds → vs = bs.map V.int
  | [], _, _, h, .nil => by cases h; rfl
  | d :: ds, bs, _, h, .cons r rs => by
    cases d with
    | int b =>
      obtain ⟨bs', h1, h2⟩ := Option.map_eq_some_iff.mp h
      subst h2
      cases r
      rw [rp_ints h1 rs]
      rfl
    | _ => cases h
def bSum : Bi := fun ds S => match ds with
  | [d] => (seqL S d).bind fun xs => (intsD xs).bind fun bs => some (.int bs.sum)
  | _ => none
theorem s_sum : CSem C K (rSum K) bSum := fun m H xs ds S d Q r sr hf q => by
  unfold bSum at hf
  split at hf
  · obtain ⟨ys, h1, h2⟩ := Option.bind_eq_some_iff.mp hf
    obtain ⟨bs, h3, h2⟩ := Option.bind_eq_some_iff.mp h2
    cases h2
    cases r with
    | cons r1 rr =>
      cases rr
      obtain ⟨a, zs, ee, h4, h5⟩ := rp_seqL sr r1 h1
      subst ee
      rw [rp_ints h3 h5] at h4
      exact ⟨_, _, rfl, h4, q _ m H .refl sr (.int _)⟩
  · cases hf
/-! ## xs.pop() -/
def lastD (S : List O) : D → Option D
  | .ref n => match S[n]? with
    | some (.lst xs) => xs[xs.length - 1]?
    | _ => none
  | _ => none
def kPop (o : D) (S : List O) : Option (D × List O) := (lastD S o).bind fun d => (setO S o fun ob => match ob with | .lst xs => some (.lst xs.dropLast) | _ => none).bind fun S' => some (d, S')
theorem RpAll.dropLast {m : M} {H : Hp} {vs : List V} {ds : List D} (r : RpAll K m H vs ds) : RpAll K m H vs.dropLast ds.dropLast := by
  rw [List.dropLast_eq_take, List.dropLast_eq_take, r.length]
  exact r.take _
theorem re_pop {X : Cx} {a : Expr} {pos apos : Pos} {ta : TE} {fa : E} (pe : PE X a ta → PE X (.Call (.Attribute a "pop" apos) [] [] pos) (tBM0 X.K "list" rPop ta)) (ho : RE X C a ta fa) : RE X C (.Call (.Attribute a "pop" apos) [] [] pos) (tBM0 X.K "list" rPop ta) (eMeth0 kPop fa) :=
  ⟨pe ho.p, fun m σ H δ S d S' Q er sr hf q => by
    unfold eMeth0 at hf
    obtain ⟨⟨d1, S1⟩, q1, hf⟩ := Option.bind_eq_some_iff.mp hf
    split at hf
    · rename_i hl
      unfold kPop at hf
      obtain ⟨dl, q2, hf⟩ := Option.bind_eq_some_iff.mp hf
      obtain ⟨S3, q4, hf⟩ := Option.bind_eq_some_iff.mp hf
      cases hf
      refine ho.s m σ H δ S d1 S1 _ er sr q1 fun v m1 H1 e1 s1 r1 => ⟨tyV_isLst s1 r1 hl, ?_⟩
      obtain ⟨n, ob, ob', ed, q5, q6, eS⟩ := setO_inv q4
      have ed : d1 = .ref n := ed
      subst ed
      subst eS
      split at q6
      · cases q6
        cases r1 with
        | @ref p _ hn =>
          obtain ⟨xs, h1, h2⟩ := s1.obj _ _ _ hn q5
          obtain ⟨_, hu, ht, hf⟩ := s1.nottup (List.mem_of_getElem? hn)
          have es : Ev m1 H1 m1 (upd H1 p (.lst xs.dropLast)) := .set (List.mem_of_getElem? hn) hu ht hf
          simp only [lastD, q5] at q2
          obtain ⟨y, h3, h4⟩ := h2.get q2
          rw [← h2.length] at h3
          refine ⟨_, _, _, rfl, rfl, h1, h3, ?_⟩
          exact q _ m1 _ (e1.trans es) (s1.put hn ⟨_, upd_same, h2.dropLast.ev es⟩) (h4.ev es)
      · cases q6
    · cases hf⟩
/-! ## list + list: a new list -/
def lAdd (f1 f2 : E) : A := fun δ S => (f1 δ S).bind fun p => (f2 δ p.2).bind fun q => (seqM q.2 p.1).bind fun xs => (seqM q.2 q.1).bind fun ys => if xs.length + ys.length ≤ sizeLine then some (xs ++ ys, q.2) else none
theorem rl_add {X : Cx} {a b : Expr} {pos : Pos} {ta tb : TE} {fa fb : E} (ha : RE X C a ta fa) (hb : RE X C b tb fb) : RL X C (.BinOp a .Add b pos) (tOp (rAddX X.K) ta tb) (lAdd fa fb) :=
  ⟨pe_op op_addX ha.p hb.p, fun m σ H δ S ds S' Q er sr hf q => by
    unfold lAdd at hf
    obtain ⟨⟨d1, S1⟩, q1, hf⟩ := Option.bind_eq_some_iff.mp hf
    obtain ⟨⟨d2, S2⟩, q2, hf⟩ := Option.bind_eq_some_iff.mp hf
    obtain ⟨xs, q3, hf⟩ := Option.bind_eq_some_iff.mp hf
    obtain ⟨ys, q4, hf⟩ := Option.bind_eq_some_iff.mp hf
    split at hf
    · rename_i hl
      cases hf
      refine ha.s m σ H δ S d1 S1 _ er sr q1 fun v m1 H1 e1 s1 r1 => ?_
      refine hb.s m1 σ H1 δ S1 d2 S2 _ (er.ev e1) s1 q2 fun u m2 H2 e2 s2 r2 => ?_
      obtain ⟨a1, vs, ee, h1, h2⟩ := rp_seqM s2 (r1.ev e2) q3
      subst ee
      obtain ⟨a2, us, ee, h3, h4⟩ := rp_seqM s2 r2 q4
      subst ee
      have e := e1.trans e2
      refine .inr (.inr (.inr ⟨_, _, _, _, rfl, rfl, h1, h3, by rw [h2.length, h4.length]; exact hl, fun p hp => ?_⟩))
      exact q p _ m2 _ (e.trans (.lay hp)) (e.free s2 hp) upd_same (s2.hideLay hp) ((h2.append h4).hide hp (.lay hp))
    · cases hf⟩
end
end Cb
namespace Cb
open PySem PySem.Spec PyProof.Rows L2
section
variable {X : Cx} {C : Addr} {pos : Pos} {a b e : Expr} {es : List Expr} {ta tb te : TE} {tA : TA} {fa fb f : E} {g : A}
/-! ## a tuple that surely has no dict -/
def tTupN (t : TA) : TE := fun σ H Q => t σ H fun xs H1 => xs.length ≤ sizeLine ∧ ∀ (p : Addr) (ob : Obj), H1 p = none → ob.dict = none → ob.cls = .type "tuple" → Q (.ref p) (upd H1 p (.frz ob (.tup xs)))
theorem pe_tupN {x1} {t : TA} (h : PA X es t) : PE X (.Tuple es x1 pos) (tTupN t) := by
  refine ⟨fun pins s σ H Q I hq => ?_⟩
  refine wpAny_Tuple_spliced (thn (h.run pos pins s σ H _ I hq) fun us s1 ⟨xs, H1, I1, r, z, q⟩ => ⟨by rw [← r.length]; exact z, ?_⟩)
  have hf : H1 s1.heap.objs.size = none := I1.hok.fresh (Nat.le_refl _)
  refine ⟨.ref s1.heap.objs.size, upd H1 s1.heap.objs.size (.frz { cls := .type "tuple", data := .seq us.toArray } (.tup xs)), I1.laid (t' := s1.toks) (fun b u e => Heap.get?_push_of_some _ e) (Nat.le_refl _) ?_, rfl, q _ _ hf rfl rfl⟩
  exact ⟨Heap.get?_push_size _ rfl, z, us, r, ⟨_, Heap.get?_push_size _ rfl, rfl, _, rfl⟩⟩
def eTupN (g : A) : E := fun δ S => (g δ S).bind fun p => if p.1.length ≤ 1000 then some (.tun p.1, p.2) else none
theorem re_tupN {x1} (h : RA X C es tA g) : RE X C (.Tuple es x1 pos) (tTupN tA) (eTupN g) :=
  ⟨pe_tupN h.p, fun m σ H δ S d S' Q er sr hf q => by
    unfold eTupN at hf
    obtain ⟨⟨ds, S1⟩, h1, h2⟩ := Option.bind_eq_some_iff.mp hf
    split at h2
    · rename_i hl
      cases h2
      refine h.s m σ H δ S _ _ _ er sr h1 fun vs m1 H1 e1 s1 r1 => ?_
      refine ⟨le_size (by rw [r1.length]; exact hl), fun p ob hp hd hc => ?_⟩
      exact q _ m1 _ (e1.trans (.lay hp)) (s1.lay hp) (.tun upd_same hd hc (r1.ev (.lay hp)))
    · cases h2⟩
def wk : D → D
  | .tun xs => .tup xs
  | d => d
theorem Rp.wk {K : PySem.W.Frag} {m : M} {H : Hp} {v : V} {d : D} (r : Rp K m H v d) : Rp K m H v (wk d) := by
  cases r with
  | tun h h1 h2 r => exact .tup (.inl (.inr ⟨_, h⟩)) r
  | non => exact .non
  | bl => exact .bl _
  | int => exact .int _
  | str => exact .str _
  | tup h r => exact .tup h r
  | lst h n r => exact .lst h n r
  | scr h => exact .scr h
  | dic h n k r => exact .dic h n k r
  | ref h => exact .ref h
  | fn h => exact .fn h
def eWk (f : E) : E := fun δ S => (f δ S).bind fun p => some (wk p.1, p.2)
theorem re_wk (h : RE X C e te f) : RE X C e te (eWk f) :=
  ⟨h.p, fun m σ H δ S d S' Q er sr hf q => by
    unfold eWk at hf
    obtain ⟨⟨d1, S1⟩, q1, hf⟩ := Option.bind_eq_some_iff.mp hf
    cases hf
    exact h.s m σ H δ S d1 S1 _ er sr q1 fun v m1 H1 e1 s1 r1 => q v m1 H1 e1 s1 r1.wk⟩
/-! ## t.index(x) -/
def rTIndexD (K : PySem.W.Frag) : V → List V → Hp → VK → Prop := fun x xs H Q => ∃ (a : Addr) (y : V) (d : PyData) (ds : List PyData) (j : Nat) (z : PyData), x = V.ref a ∧ xs = [y] ∧ Dp K H (V.ref a) (.tuple ds) ∧ Dp K H y d ∧
  SeqAt.shaped (.tuple ds) = true ∧ SeqAt.shaped d = true ∧ ds[j]? = some z ∧ PyData.eqv z d = true ∧ (∀ (m : Nat) (z' : PyData), m < j → ds[m]? = some z' → PyData.eqv z' d = false) ∧ Q (.int (j : Nat)) H
theorem mt_tindexD (hu : X.A.units + 65 < cLine) : MtR X "tuple.index" (rTIndexD X.K) := by
  intro pins s σ H x xs v us Q I rx rxs h
  obtain ⟨a, y, d, ds, j, z, rfl, rfl, hl, hy, sl, sd, hz, hzj, hno, q⟩ := h
  cases rx
  cases rxs with
  | cons ry rt =>
    rename_i uy ut
    cases rt
    obtain ⟨bs, r1⟩ := Dp.reads I d y uy hy ry
    have hxs : PyData.canLayAll0 ds = true := SeqAt.canLay_of_shaped sl
    have hroom : X.A.units + 1 + min (PyData.depthAll ds) d.depth < cLine := room_in_shaped sd hu
    cases hl with
    | tup hs ha =>
      obtain ⟨its, rv, ⟨⟨cls, dd, data, sls⟩, ho, hc, n, hdt⟩, hlen⟩ := I.tuple hs
      simp only at hc hdt
      subst hc hdt
      obtain ⟨as, h4⟩ := Dp.readsAll I ds _ its ha rv
      have hn : its.length = ds.length := SeqAt.ReadsAll.length ds its as h4
      have hmap : its.map (SeqAt.readOf s.heap) = ds := SeqAt.readsAll_map ds its as hxs h4
      obtain ⟨hjd, _⟩ := List.getElem?_eq_some_iff.mp hz
      have hjl : j < its.length := by omega
      have hj : j < its.toArray.size := by simpa using hjl
      have at_ : ∀ (m : Nat) (hm : m < its.toArray.size) (z' : PyData), ds[m]? = some z' → SeqAt.readOf s.heap its.toArray[m] = z' := by
        intro m hm z' hz'
        have hml : m < its.length := by simpa using hm
        rw [← hmap, List.getElem?_map, List.getElem?_eq_getElem hml] at hz'
        have e1 : SeqAt.readOf s.heap its[m] = z' := Option.some.inj (show some (SeqAt.readOf s.heap its[m]) = some z' from hz')
        simpa using e1
      refine call_meets PySem.F.slot_tuple_index ⟨_, ho, rfl⟩ PySem.F.entry_tuple_index (PySem.F.args_tuple_index_2 _ _)
        (TI.tuple_indexAt a its.toArray n dd sls uy (fun u => PyData.eqv (SeqAt.readOf s.heap u) d) j hj ?_ ?_) ⟨ho, SeqAt.items_eqAt (vs := its.toArray) (show ReadsAll s.heap its.toArray.toList ds as from h4) r1 hxs (SeqAt.canLay_of_shaped sd) hroom, ?_⟩
      · show PyData.eqv (SeqAt.readOf s.heap its.toArray[j]) d = true
        rw [at_ j hj z hz]
        exact hzj
      · intro m hm hmj
        have hmd : m < ds.length := by omega
        have hz' : ds[m]? = some ds[m] := List.getElem?_eq_getElem hmd
        show PyData.eqv (SeqAt.readOf s.heap its.toArray[m]) d = false
        rw [at_ m hm _ hz']
        exact hno m _ hmj hz'
      · exact ⟨.int (j : Nat), H, I.tok _, ⟨_, rfl⟩, q⟩
def TunV (x : V) (H : Hp) : Prop := ∃ (a : Addr) (ob : Obj) (xs : List V), x = .ref a ∧ H a = some (.frz ob (.tup xs)) ∧ ob.dict = none ∧ ob.cls = .type "tuple"
theorem tunV_is {pins : List (Addr × Obj)} {σ : L2.St} {H : Hp} {s : Shared} {x : V} {v : Value} (I : Inv X pins σ H s) (r : RelV x v) (ty : TunV x H) :
    s.TypeIs v "tuple" ∧ ∀ a, v = .ref a → ∃ ob, s.heap.get? a = some ob ∧ ob.dict = none := by
  obtain ⟨a, ob, xs, rfl, h1, h2, h3⟩ := ty
  cases r
  obtain ⟨e, _⟩ := (show ObjOk X.prog X.w H s.heap a (.frz ob (.tup xs)) from I.hok a _ h1)
  exact ⟨⟨ob, e, h3⟩, fun b eb => by cases eb; exact ⟨ob, e, h2⟩⟩
def tTix (r : V → List V → Hp → VK → Prop) (to : TE) (t : TA) : TE := fun σ H Q => to σ H fun x H1 => TunV x H1 ∧ t σ H1 fun xs H2 => r x xs H2 Q
theorem pe_tix {o : Expr} {to : TE} {t : TA} {apos cpos : Pos} {r : V → List V → Hp → VK → Prop} (hm : MtR X "tuple.index" r) (ho : PE X o to) (ha : PA X (e :: es) t)
    (hbase : attributeBase o "index" X.env (eval o X.env) = eval o X.env := by rfl)
    (hfew : ((backTo cpos (starEach (e :: es) X.env)).all (fun x => !x.1) && (backToKw cpos (keywordEach [] X.env)).all (fun x => x.1.isSome)
      && decide ((e :: es).length + ([] : List Keyword).length + (if ([] : List Keyword).isEmpty then 0 else 1) < 30)) = true := by rfl)
    (hline : (apos.endLine == cpos.line) = true := by rfl) (hs : starEach (e :: es) X.env = (false, eval e X.env) :: starEach es X.env := by rfl) (hplain : (backTo cpos (starEach es X.env)).any (·.1) = false := by rfl) :
    PE X (.Call (.Attribute o "index" apos) (e :: es) [] cpos) (tTix r to t) := by
  refine ⟨fun pins s σ H Q I h => ?_⟩
  refine wpAny_Call_method_late hbase hfew hline rfl (thn (ho.run pins s σ H _ I h) fun v s1 ⟨x, H1, I1, r1, ty, q1⟩ => ?_)
  obtain ⟨h1, h2⟩ := tunV_is I1 r1 ty
  refine ⟨"tuple", "tuple.index", PySem.F.plainAttrs_tuple, PySem.F.slot_tuple_index, PySem.F.type_tuple_index, h1, h2, ?_⟩
  have hA := ha.run cpos pins s1 σ H1 _ I1 q1
  rw [hs] at hA ⊢
  refine Calls.callWith_builtin (by show (false || (backTo cpos (starEach es X.env)).any (·.1)) = false; rw [hplain] <;> rfl) (Calls.evalArgs_plain ?_)
  exact thn hA fun us s2 ⟨vs, H2, I2, r2, q2⟩ => hm pins s2 σ H2 x vs v us Q I2 r1 r2 q2
def dTix (x y : D) : Option D := match x with
  | .tun xs => if SeqAt.shaped (.tuple (pyL xs)) = true ∧ SeqAt.shaped (py y) = true then ((pyL xs).findIdx? fun z => PyData.eqv z (py y)).map fun j => .int (j : Nat) else none
  | _ => none
def isTun : D → Bool
  | .tun _ => true
  | _ => false
def eTIndex (fo fe : E) : E := fun δ S => (fo δ S).bind fun o => if isTun o.1 = true then (fe δ o.2).bind fun v => (dTix o.1 v.1).bind fun d => some (d, v.2) else none
theorem re_tindex {apos : Pos} (hu : X.A.units + 65 < cLine) (ho : RE X C a ta fa) (he : RE X C e te f)
    (hs : starEach [e] X.env = (false, eval e X.env) :: starEach [] X.env := by rfl)
    (hbase : attributeBase a "index" X.env (eval a X.env) = eval a X.env := by rfl)
    (hfew : ((backTo pos (starEach [e] X.env)).all (fun x => !x.1) && (backToKw pos (keywordEach [] X.env)).all (fun x => x.1.isSome)
      && decide ([e].length + ([] : List Keyword).length + (if ([] : List Keyword).isEmpty then 0 else 1) < 30)) = true := by rfl)
    (hline : (apos.endLine == pos.line) = true := by rfl) (hplain : (backTo pos (starEach [] X.env)).any (·.1) = false := by rfl) :
    RE X C (.Call (.Attribute a "index" apos) [e] [] pos) (tTix (rTIndexD X.K) ta (tCons te tNil)) (eTIndex fa f) :=
  ⟨pe_tix (mt_tindexD hu) ho.p (pa_cons he.p pa_nil hs) hbase hfew hline hs hplain, fun m σ H δ S d S' Q er sr hf q => by
    unfold eTIndex at hf
    obtain ⟨⟨d1, S1⟩, q1, hf⟩ := Option.bind_eq_some_iff.mp hf
    split at hf
    · rename_i ht
      obtain ⟨⟨d2, S2⟩, q2, hf⟩ := Option.bind_eq_some_iff.mp hf
      obtain ⟨d3, q3, hf⟩ := Option.bind_eq_some_iff.mp hf
      cases hf
      refine ho.s m σ H δ S d1 S1 _ er sr q1 fun v m1 H1 e1 s1 r1 => ?_
      cases r1 with
      | @tun a ob xs ds h1 h2 h3 r =>
        refine ⟨⟨a, ob, xs, rfl, h1, h2, h3⟩, ?_⟩
        refine he.s m1 σ H1 δ S1 d2 S2 _ (er.ev e1) s1 q2 fun u m2 H2 e2 s2 r2 => ?_
        simp only [dTix] at q3
        split at q3
        · rename_i hsh
          obtain ⟨j, hj, ej⟩ := Option.map_eq_some_iff.mp q3
          subst ej
          obtain ⟨hjl, hj1, hj2⟩ := List.findIdx?_eq_some_iff_getElem.mp hj
          have c1 : PyData.canLayAll0 (pyL ds) = true := by simpa [PyData.canLay0] using SeqAt.canLay_of_shaped hsh.1
          refine ⟨a, u, py d2, pyL ds, j, (pyL ds)[j], rfl, rfl, .tup (.inl (.inr ⟨ob, e2.frz _ _ _ h1⟩)) ((r.ev e2).dp c1), r2.dp (SeqAt.canLay_of_shaped hsh.2), hsh.1, hsh.2, List.getElem?_eq_getElem hjl, hj1, fun m' z' hm hz => ?_, ?_⟩
          · have hml : m' < (pyL ds).length := by omega
            rw [List.getElem?_eq_getElem hml] at hz
            cases hz
            have := hj2 m' hm
            simpa using this
          · exact q _ m2 H2 (e1.trans e2) s2 (.int _)
        · cases q3
      | _ => simp [isTun] at ht
    · cases hf⟩
/-! ## x in xs, of any data -/
def dInD (neg : Bool) : Op2 := fun x y S => match pyS S y with
  | .list ds => if SeqAt.shaped (py x) = true ∧ SeqAt.shaped (.list ds) = true then some (.bl (if neg = true then !(ds.any fun z => PyData.eqv z (py x)) else ds.any fun z => PyData.eqv z (py x))) else none
  | _ => none
theorem s_inD {K : PySem.W.Frag} : R2Sem C K (rInD K) (dInD false) := fun m H x y d1 d2 S d Q r1 r2 sr hf q => by
  unfold dInD at hf
  split at hf
  · rename_i ds he
    split at hf
    · rename_i hsh
      cases hf
      have c2 := SeqAt.canLay_of_shaped hsh.2
      rw [← he] at c2
      have h2 := r2.dpS sr c2
      rw [he] at h2
      exact ⟨_, _, r1.dp (SeqAt.canLay_of_shaped hsh.1), h2, hsh.1, hsh.2, q _ m H .refl sr (.bl _)⟩
    · cases hf
  · cases hf
theorem s_notInD {K : PySem.W.Frag} : R2Sem C K (rNotInD K) (dInD true) := fun m H x y d1 d2 S d Q r1 r2 sr hf q => by
  unfold dInD at hf
  split at hf
  · rename_i ds he
    split at hf
    · rename_i hsh
      cases hf
      have c2 := SeqAt.canLay_of_shaped hsh.2
      rw [← he] at c2
      have h2 := r2.dpS sr c2
      rw [he] at h2
      exact ⟨_, _, r1.dp (SeqAt.canLay_of_shaped hsh.1), h2, hsh.1, hsh.2, q _ m H .refl sr (.bl _)⟩
    · cases hf
  · cases hf
theorem rc_inD (hu : X.A.units + 65 < cLine) (ha : RE X C a ta fa) (hb : RE X C b tb fb) (hm : behindInMarks .In b = false := by rfl) : RC X C (.Compare a [.In] [b] pos) (tOp (rInD X.K) ta tb) (eOp (dInD false) fa fb) := rc_op (op_inD hu) s_inD ha hb hm
theorem rc_notinD (hu : X.A.units + 65 < cLine) (ha : RE X C a ta fa) (hb : RE X C b tb fb) (hm : behindInMarks .NotIn b = false := by rfl) : RC X C (.Compare a [.NotIn] [b] pos) (tOp (rNotInD X.K) ta tb) (eOp (dInD true) fa fb) := rc_op (op_notInD hu) s_notInD ha hb hm
theorem u65 {k : Nat} {A : Around} (r : Room k A) : A.units + 65 < cLine := by
  have h1 := r.un
  omega
end
end Cb
namespace Cb
open PySem PySem.Spec PyProof.Rows L2
section
variable {X : Cx} {C : Addr} {pos : Pos} {a b e : Expr} {es : List Expr} {ta tb te : TE} {tA : TA} {fa fb f : E} {g : A}
/-! ## defs as values -/
theorem re_gFn {x : Str} {p : Addr} (hg : Gl X x) (hn : PySem.W.nsIn X.K mainGlobals x = some (some (.ref p))) (hm : X.mg x = some (.ref p)) (hd : (x == ("__debug__" : Str)) = false := by decide) : RE X C (.Name x pos) (tC (.ref p)) (eC (.fn x)) :=
  ⟨pe_glob hg hm rfl hd, fun m σ H δ S d S' Q er sr h q => by cases h; exact q _ m H .refl sr (.fn hn)⟩
def tCallV (K : PySem.W.Frag) (C : Addr) (i n : Nat) (tb : Str → Option Fn) (E : XK) (t : TA) : TE := fun σ H Q => ∃ (p : Addr) (x : Str) (F : Fn), σ[i]? = some (some (.ref p)) ∧ PySem.W.nsIn K mainGlobals x = some (some (.ref p)) ∧ tb x = some F ∧ t σ H fun vs H1 => spF C K n F (vs ++ []) H1 Q E
def eCallV (i n : Nat) (tb : Str → Option Fn) (g : A) : E := fun δ S => match δ[i]? with
  | some (some (.fn x)) => match tb x with
    | some F => (g δ S).bind fun p => if p.1.length = n then F p.1 p.2 else none
    | none => none
  | _ => none
theorem re_callV {k n i : Nat} {y : Str} {q : Pos} {tb : Str → Option Fn} (cals : ∀ x F, tb x = some F → Cal X.prog X.w X.K X.mg X.base C k x n F) (hr : Room k X.A) (ha : RA X C (e :: es) tA g)
    (hN : X.N[i]? = some y := by rfl) (hv : Vis X.env.scope y := by first | exact Or.inl rfl | exact Or.inr (Or.inl rfl) | exact Or.inr (Or.inr rfl)) (hd : (y == ("__debug__" : Str)) = false := by decide)
    (hcd : (y == ("__classdict__" : Str)) = false := by decide)
    (he : starEach (e :: es) X.env = (false, eval e X.env) :: starEach es X.env := by rfl) (hpl : (backTo pos (starEach es X.env)).any (·.1) = false := by rfl) :
    RE X C (.Call (.Name y q) (e :: es) [] pos) (tCallV X.K C i n tb E0 tA) (eCallV i n tb g) := by
  refine ⟨⟨fun pins s σ H Q I h => ?_⟩, fun m σ H δ S d S' Q er sr hf qq => ?_⟩
  · obtain ⟨p, x, F, hσ, hn, ht, h⟩ := h
    obtain ⟨f, fd, ps, F', bd, kp, hm⟩ := (cals x F ht).ex
    have hm' := PySem.W.mg_of I.ok.mod.kin I.ok.mod.glob hn
    rw [hm] at hm'
    cases hm'
    refine wpAny_Call_Name_kw (thn ((pe_var (pos := q) hN hv hd hcd).run pins s σ H (fun v H1 => v = .ref p ∧ tA σ H1 fun vs H2 => spF C X.K n F (vs ++ []) H2 Q E0) I ⟨.ref p, hσ, rfl, h⟩) fun u s1 ⟨v, H1, I1, r1, ev, q1⟩ => ?_)
    subst ev
    cases r1
    refine PySem.W.callWith_K (h₀ := X.base) I1.ok.mod.kin kp (thn (ha.p.run pos pins s1 σ H1 _ I1 q1) fun us s2 ⟨vs, H2, I2, r, q2⟩ => ⟨I2.kIn, ?_⟩) he hpl
    exact run_fn F' hr bd .nil pass0 I2 r q2
  · unfold eCallV at hf
    split at hf
    · rename_i x hδ
      split at hf
      · rename_i F ht
        obtain ⟨⟨ds, S1⟩, q1, hf⟩ := Option.bind_eq_some_iff.mp hf
        split at hf
        · rename_i hl
          obtain ⟨v, hv', r⟩ := er.get i _ hδ
          cases r with
          | @fn p _ hn =>
            refine ⟨p, x, F, hv', hn, ht, ?_⟩
            refine ha.s m σ H δ S ds S1 _ er sr q1 fun vs m1 H1 e1 s1 r1 => ?_
            rw [List.append_nil]
            exact ⟨by rw [r1.length]; exact hl, m1, S1, ds, d, S', r1, s1, hf, fun v m2 H2 e2 s2 r2 => qq v m2 H2 (e1.trans e2) s2 r2⟩
        · cases hf
      · cases hf
    · cases hf
def tb3 (a b c : Str) (Fa Fb Fc : Fn) : Str → Option Fn := fun x => if x = a then some Fa else if x = b then some Fb else if x = c then some Fc else none
theorem cals3 {P : Program} {w : World} {K : PySem.W.Frag} {mg : Str → Option Value} {base : Heap} {C : Addr} {k n : Nat} {a b c : Str} {Fa Fb Fc : Fn} (ha : Cal P w K mg base C k a n Fa) (hb : Cal P w K mg base C k b n Fb) (hc : Cal P w K mg base C k c n Fc) :
    ∀ x F, tb3 a b c Fa Fb Fc x = some F → Cal P w K mg base C k x n F := fun x F h => by
  unfold tb3 at h
  split at h
  · rename_i e; subst e; cases h; exact ha
  · split at h
    · rename_i e; subst e; cases h; exact hb
    · split at h
      · rename_i e; subst e; cases h; exact hc
      · cases h
end
end Cb
namespace Cb
open PySem PySem.Spec PyProof.Rows L2
/-! ## two statements that make a dict and end with it: from there on it never changes -/
def okSl (n i : Nat) (δ : Sl) : Bool := (List.range δ.length).all fun k => k == i || (match δ[k]? with | some (some d) => okD n d | _ => true)
def frz (n i : Nat) (δ : Sl) (S : List O) : Option (Sl × List O) := match δ[i]? with
  | some (some (.ref j)) => if n ≤ j ∧ (S.take n).all (okO n) = true ∧ okSl n i δ = true then (match S[j]? with
      | some (.dic ks) => if okKs n ks = true then some (δ.set i (some (.dic ks)), S.take n) else none
      | _ => none) else none
  | _ => none
def sFrz (i : Nat) (b : B) : B := fun δ S => (b δ S).bind fun o => match o with
  | .nx δ2 S2 => (frz S.length i δ2 S2).bind fun p => some (.nx p.1 p.2)
  | _ => none
section
variable {C : Addr} {K : PySem.W.Frag}
theorem s_frz {t : TS} {b : B} (i : Nat) (h : SSem C K t b) : SSem C K t (sFrz i b) := fun m σ H δ S o Z er sr hf q => by
  unfold sFrz at hf
  obtain ⟨o1, q1, hf⟩ := Option.bind_eq_some_iff.mp hf
  split at hf
  · rename_i δ2 S2
    obtain ⟨⟨δ3, S3⟩, q2, hf⟩ := Option.bind_eq_some_iff.mp hf
    cases hf
    refine h m σ H δ S _ Z er sr q1 ?_
    intro m' σ' H' e er' s'
    have hc := cut_of e sr.len
    unfold frz at q2
    split at q2
    · rename_i j hj
      split at q2
      · rename_i hcond
        obtain ⟨hnj, hok, hsl⟩ := hcond
        split at q2
        · rename_i ks hks
          split at q2
          · rename_i k
            cases q2
            refine q m σ' H' e.cut ?_ (s'.cut hc hok)
            have nin : ∀ a, m'.l[j]? = some a → ¬ m.has a := fun a ha z => by
              rcases z with z | z
              · obtain ⟨i, hi, ei⟩ := List.mem_iff_getElem.mp z
                have h1 : m.l[i]? = some a := by rw [List.getElem?_eq_getElem hi, ei]
                have h2 := e.at h1
                have := nd_ix s'.nd h2 ha
                rw [← sr.len] at hnj
                omega
              · refine s'.apt a ?_ (List.mem_of_getElem? ha)
                rw [e.hid]; exact z
            refine ⟨by rw [er'.len, List.length_set], fun k' d hd => ?_⟩
            by_cases hk : k' = i
            · subst hk
              have hlt : k' < δ2.length := (List.getElem?_eq_some_iff.mp hj).1
              rw [List.getElem?_set_self hlt] at hd
              cases hd
              obtain ⟨v, hv, r⟩ := er'.get k' _ hj
              refine ⟨v, hv, ?_⟩
              cases r with
              | @ref a _ hn =>
                obtain ⟨vs, h1, h2, h3⟩ := s'.obj _ _ _ hn hks
                refine .dic h1 (nin a hn) h2 ?_
                rw [← hc]
                exact h3.cut' (by rw [← okKs_eq]; exact k)
            · rw [List.getElem?_set_ne (fun z => hk z.symm)] at hd
              obtain ⟨v, hv, r⟩ := er'.get k' _ hd
              refine ⟨v, hv, ?_⟩
              rw [← hc]
              refine r.cut ?_
              have hlt : k' < δ2.length := (List.getElem?_eq_some_iff.mp hd).1
              have := List.all_eq_true.mp hsl k' (List.mem_range.mpr hlt)
              rw [hd] at this
              simpa [hk] using this
          · cases q2
        · cases q2
      · cases q2
    · cases q2
  · cases hf
theorem s_two {t1 t2 : TS} {b1 b2 : B} (h1 : SSem C K t1 b1) (h2 : SSem C K t2 b2) : SSem C K (tSeq t1 t2) (sSeq b1 b2) := fun m σ H δ S o Z er sr hf q => by
  unfold sSeq at hf
  obtain ⟨o1, q1, hf⟩ := Option.bind_eq_some_iff.mp hf
  refine h1 m σ H δ S o1 _ er sr q1 ?_
  split at hf
  · exact fun m1 σ1 H1 e1 er1 s1 => h2 m1 σ1 H1 _ _ o Z er1 s1 hf (q.ev e1)
  · cases hf
    cases o with
    | nx δ' S' => rename_i h; exact absurd rfl (h δ' S')
    | rt d S' => exact q
    | bk δ' S' => exact q
    | ct δ' S' => exact q
theorem rss_frz {X : Cx} {st1 st2 : Stmt} {sts : List Stmt} {t1 t2 t : TS} {b1 b2 b : B} (i : Nat) (h1 : RS X C st1 t1 b1) (h2 : RS X C st2 t2 b2) (h : RSs X C sts t b) : RSs X C (st1 :: st2 :: sts) (tSeq t1 (tSeq t2 t)) (sSeq (sFrz i (sSeq b1 b2)) b) :=
  ⟨pss_cons h1.p (pss_cons h2.p h.p), s_two (t1 := tSeq t1 t2) (s_frz i (s_two h1.s h2.s)) h.s⟩
end
end Cb
/-! sorted(set(xs)), xs a list of texts -/
namespace Cb
open PySem PySem.Spec PyProof.Rows L2
open PySem.Froz (SD sObj addTx tailTx TxOk is_str)
def keyT (e : Int × Value) : Str := PyProof.Rows.strOf e.2
def GoodT (w : World) (e : Int × Value) : Prop := ∃ k tk, e.2 = Value.str k tk ∧ e.1 = hashStr w k
/-- the payload of a set that holds the texts l, and can be walked -/
structure TxS (w : World) (D : SD) (l : List Str) : Prop where
  good : ∀ e ∈ D.1.toList, GoodT w e
  perm : (D.1.toList.map keyT).Perm l
  nd : l.Nodup
  fit : D.2.2.fits D.1.size = true
  ris : Ris D.2.2.place.toList
  led : w.params.followText "set-order" = true ∨ D.2.2.led = true
section
variable {P : Program} {w : World} {A : Around} {E : Value → Shared → Prop} {s : Shared} {D : SD} {l : List Str} {k : Str}
theorem TxS.size (F : TxS w D l) : D.1.size = l.length := by
  have := F.perm.length_eq
  rwa [List.length_map, Array.length_toList] at this
theorem goodT_is {e : Int × Value} (g : GoodT w e) (k : Str) : (PySem.strKind P w).is k e.2 = true ↔ keyT e = k := by
  obtain ⟨k0, tk, h1, _⟩ := g
  unfold keyT
  rw [h1]
  show Value.isStrOf k (.str k0 tk) = true ↔ k0 = k
  simp [Value.isStrOf]
theorem TxS.ok (F : TxS w D l) : TxOk P w D l where
  el := fun e he => by
    obtain ⟨k, tk, h1, h2⟩ := F.good e he
    exact ⟨⟨k, by rw [h1]; exact is_str k tk, h2⟩, by rw [h1] <;> rfl⟩
  mem := fun k => by
    rw [← F.perm.mem_iff, List.mem_map]
    constructor
    · rintro ⟨e, he, q⟩; exact ⟨e, he, (goodT_is (F.good e he) k).2 q⟩
    · rintro ⟨e, he, q⟩; exact ⟨e, he, (goodT_is (F.good e he) k).1 q⟩
  sz := F.size
  fit := F.fit
theorem TxS.nil {ep : Nat} : TxS w (#[], ep, .fresh 0 0 (!w.params.followText "set-order")) [] where
  good := fun e he => by simp at he
  perm := by simp
  nd := List.nodup_nil
  fit := by rfl
  ris := List.Pairwise.nil
  led := by
    show _ ∨ (!w.params.followText "set-order") = true
    cases w.params.followText "set-order"
    · exact .inr rfl
    · exact .inl rfl
theorem TxS.add (u : Tok) (F : TxS w D l) (hk : k ∉ l) : TxS w (addTx (hashStr w k) (.str k u) D) (k :: l) := by
  obtain ⟨es, ep, t⟩ := D
  have pm := layNew_perm t es (hashStr w k) (.str k u)
  have hf := layNew_fits t es (hashStr w k) (.str k u)
  have hr := layNew_ris t es (hashStr w k) (.str k u) F.ris
  have hl := layNew_led t es (hashStr w k) (.str k u)
  show TxS w (tailTx ep (layNew t es (hashStr w k) (.str k u)).1 (if (layNew t es (hashStr w k) (.str k u)).2.1.plain = true then { (layNew t es (hashStr w k) (.str k u)).2.1 with plain := false } else (layNew t es (hashStr w k) (.str k u)).2.1) (layNew t es (hashStr w k) (.str k u)).2.2.1) (k :: l)
  generalize layNew t es (hashStr w k) (.str k u) = Z at pm hf hr hl ⊢
  obtain ⟨es1, t1, wd, gave⟩ := Z
  dsimp only at pm hf hr hl ⊢
  have h2 : ∃ t2 : SetTable, (if t1.plain = true then { t1 with plain := false } else t1) = t2 ∧ t2.fits es1.size = true ∧ Ris t2.place.toList ∧ t2.led = t.led := by
    by_cases c : t1.plain = true
    · rw [if_pos c]; exact ⟨_, rfl, SetTable.fits_plain_off hf, hr, hl⟩
    · rw [if_neg c]; exact ⟨_, rfl, hf, hr, hl⟩
  obtain ⟨t2, e2, f2, r2, l2⟩ := h2
  rw [e2]
  rw [Array.toList_push] at pm
  have pc : es1.toList.Perm ((hashStr w k, Value.str k u) :: es.toList) := pm.trans (List.perm_append_singleton _ _)
  have base : ∀ (es2 : Array (Int × Value)) (ep2 : Nat) (t3 : SetTable), es2.toList.Perm es1.toList → t3.fits es2.size = true → Ris t3.place.toList → t3.led = t.led → TxS w (es2, ep2, t3) (k :: l) := fun es2 ep2 t3 p f r q =>
    ⟨fun e he => by
      rcases List.mem_cons.mp (pc.mem_iff.mp (p.mem_iff.mp he)) with z | z
      · rw [z]; exact ⟨k, u, rfl, rfl⟩
      · exact F.good e z,
     ((p.trans pc).map keyT).trans (by rw [List.map_cons]; exact (List.Perm.cons k F.perm)),
     List.nodup_cons.mpr ⟨hk, F.nd⟩, f, r, F.led.imp id fun z => by rw [q]; exact z⟩
  unfold tailTx
  split
  · exact base _ _ _ (relayAll_perm t2 es1 _) (relayAll_fits t2 es1 _) (relayAll_ris t2 es1 _) (by rw [relayAll_led]; exact l2)
  · exact base _ _ _ (List.Perm.refl _) f2 r2 l2
theorem setT_add {a : Addr} {tk : Tok} {Q : Bool → Shared → Prop} (ho : s.heap.get? a = some (sObj "set" D)) (F : TxS w D l) (room : l.length + 1 < scanBound)
    (hQ : ∀ b h' D' l', Heap.SameBut a s.heap h' → h'.get? a = some (sObj "set" D') → TxS w D' l' → (∀ j, j ∈ l' ↔ j ∈ l ∨ j = k) → l'.length ≤ l.length + 1 → Q b { s with heap := h' }) :
    wpAny (model P w) A (setAddHashed a (.str k tk) (hashStr w k)) Q E s := by
  by_cases hk : k ∈ l
  · have T : TxOk P w D l := F.ok
    obtain ⟨es, ep, t⟩ := D
    have hd : (sObj "set" (es, ep, t)).data = .set es ep t := rfl
    have hf : t.fits es.size = true := F.fit
    have hel : ElemsOf (PySem.strKind P w) es.toList := T.el
    have hsz : es.size = l.length := F.size
    have hb0 : es.size < scanBound := by omega
    have hkey : (PySem.strKind P w).is k (.str k tk) = true := is_str k tk
    unfold setAddHashed setAddHashedIn
    refine wpAny_holding (wpAny_bind (wpAny_setState_of ho hd hf ?_))
    dsimp only
    rw [byScan_of rfl hb0 hel]
    simp only [↓reduceIte]
    unfold setAddByScan
    refine wpAny_bind ?_
    refine wpAny_bind (wpAny_rule ?_)
    refine wpAny_bind (wpAny_setScan_of (knd := PySem.strKind P w) (k := k) hkey ho hd hf hel ?_)
    cases hfi : List.findIdx? (fun e => (PySem.strKind P w).is k e.2) es.toList with
    | some j =>
      dsimp only
      refine wpAny_pure (wpAny_pure ?_)
      exact hQ _ s.heap _ l (Heap.SameBut.refl a s.heap) ho F (fun j => ⟨.inl, fun z => z.elim id fun e => e ▸ hk⟩) (Nat.le_succ _)
    | none =>
      obtain ⟨e, he, q⟩ := (T.mem k).1 hk
      have c := List.findIdx?_eq_none_iff.mp hfi e he
      rw [q] at c
      cases c
  · refine PySem.Froz.add_x ho F.ok hk room ?_
    exact hQ true _ _ (k :: l) (Heap.SameBut.update s.heap a _) (PySem.Froz.get_upd _ ho rfl) (F.add tk hk) (fun j => by rw [List.mem_cons]; exact Or.comm) (by simp)
/-- what set() lays -/
def newSet (w : World) : Obj := { cls := .type "set", dict := none, data := .set #[] 0 (.fresh 0 0 (!w.params.followText "set-order")) }
/-- a set of texts at a, whose members are the first i of ws -/
def Upto (w : World) (ws : List Str) (a : Addr) (i : Nat) (h : Heap) : Prop := ∃ D l, h.get? a = some (sObj "set" D) ∧ TxS w D l ∧ (∀ j, j ∈ l ↔ j ∈ ws.take i) ∧ l.length ≤ i
theorem Upto.at {ws : List Str} {a : Addr} {i : Nat} {h h' : Heap} (u : Upto w ws a i h) (k : ∀ o, h.get? a = some o → h'.get? a = some o) : Upto w ws a i h' := by
  obtain ⟨D, l, p, q⟩ := u
  exact ⟨D, l, k _ p, q⟩
/-- one more text into the set -/
theorem upto_add {ws : List Str} {a : Addr} {i : Nat} {z : Str} {t : Tok} {Q : Bool → Shared → Prop} (u : Upto w ws a i s.heap) (hz : ws[i]? = some z) (room : i + 1 < scanBound)
    (h : ∀ b h', Heap.SameBut a s.heap h' → Upto w ws a (i + 1) h' → Q b { s with heap := h', toks := s.toks + 1 }) : wpAny (model P w) A (setAdd a (.str z t)) Q E s := by
  obtain ⟨D, l, ho, F, hm, hc⟩ := u
  unfold setAdd
  refine wpAny_holding (wpAny_bind ((PySem.strKind P w).pyHash (k := z) (is_str _ _) ?_))
  refine setT_add (s := { s with toks := s.toks + 1 }) ho F (by omega) fun b h' D' l' sb o2 F2 m2 c2 => h b h' sb ⟨D', l', o2, F2, fun j => ?_, by omega⟩
  rw [m2 j, hm j, List.take_add_one, hz]
  simp [List.mem_append]
/-- the rest of a walked list of texts goes into the set -/
theorem set_all_txt {I : Addr} {fp wr : List Addr} {G : Array GenState → Array GenState → Prop} {n : Nat} {Pv : Nat → Value → Prop} {St : Nat → Shared → Prop} {R : Result → Shared → Prop}
    (W : WalksS P w A.in1 I fp wr G n Pv St) (a : Addr) (haf : a ∉ fp) (ws : List Str) (hn : n = ws.length) (hb : ws.length + 1 < scanBound) (hv : ∀ i v, Pv i v → ∃ k t, ws[i]? = some k ∧ v = .str k t)
    (fin : Shared → Prop) (hR : ∀ s', fin s' → R (.ok (.ret .none)) s') : ∀ (k i : Nat) (s : Shared), n ≤ i + k → i ≤ n → St i s → Upto w ws a i s.heap → (∀ s', Moved (a :: wr) G s s' → Upto w ws a n s'.heap → fin s') →
      codeAny (model P w) A (.builtin "set.update.loop" ⟨[.ref a, .ref I], []⟩) R s := by
  have out : a ∉ wr := fun q => haf (W.sub _ q)
  have more : ∀ b, b ∈ wr → b ∈ a :: wr := fun b q => List.mem_cons_of_mem _ q
  intro k
  induction k with
  | zero =>
    intro i s hk hi st u hf
    have e : i = n := by omega
    subst e
    refine codeAny_builtin PyProof.Rows.F.entry_set_update_loop (by
      rw [Around.under_plainId PyProof.Rows.F.plain_set_update_loop _]
      exact wpAny_bind (W.done s _ _ st fun s' m => wpAny_pure (hR s' (hf s' (m.mono more) (u.at fun o q => m.heap a o out q)))))
  | succ k ih =>
    intro i s hk hi st u hf
    by_cases lt : i < n
    · refine codeAny_builtin PyProof.Rows.F.entry_set_update_loop (by
        rw [Around.under_plainId PyProof.Rows.F.plain_set_update_loop _]
        refine wpAny_bind (W.item i s _ _ lt st fun v s1 pv st1 m => ?_)
        obtain ⟨z, t, ez, rfl⟩ := hv i v pv
        refine wpAny_bind (wpAny_holding (upto_add (u.at fun o q => m.heap a o out q) ez (by omega) fun b h' sb u' => ?_))
        have keep : ∀ b o, b ≠ a → s1.heap.get? b = some o → h'.get? b = some o := fun b o q e => by rw [sb.2 b q]; exact e
        refine wpAny_pure ⟨plainId_quiet PyProof.Rows.F.plain_set_update_loop _, ih (i + 1) _ (by omega) lt (W.frame _ s1 _ _ st1 (Nat.le_succ _) fun b q o e => keep b o (fun z => haf (z ▸ q)) e) u' fun s2 m2 u2 => ?_⟩
        exact hf s2 (Moved.trans W.gtrans ((m.mono more).then_heap (Nat.le_succ _) fun b o q e => keep b o (fun z => q (by rw [z]; exact List.mem_cons_self)) e) m2) u2)
    · have e : i = n := by omega
      subst e
      refine codeAny_builtin PyProof.Rows.F.entry_set_update_loop (by
        rw [Around.under_plainId PyProof.Rows.F.plain_set_update_loop _]
        exact wpAny_bind (W.done s _ _ st fun s' m => wpAny_pure (hR s' (hf s' (m.mono more) (u.at fun o q => m.heap a o out q)))))
theorem strs_at : ∀ {vs : List Value} {ys : List Str}, StrsAre vs ys → vs.length = ys.length ∧ ∀ (i : Nat) (v : Value), vs[i]? = some v → ∃ k t, ys[i]? = some k ∧ v = .str k t
  | _, _, .nil => ⟨rfl, fun i v q => by simp at q⟩
  | _, _, .cons y t r => by
    obtain ⟨h1, h2⟩ := strs_at r
    refine ⟨by simp [h1], fun i v q => ?_⟩
    cases i with
    | zero => simp at q; exact ⟨y, t, rfl, q.symm⟩
    | succ i => exact h2 i v q
/-- a type is called whose __init__ looks at its arguments by a run, not by their number alone -/
theorem type_run {T newId initId : String} {Bi : Builtin} {args : List Value} {Q N : Value → Shared → Prop} (ft : TypeCalled T newId initId) (hct : checkTypeCall T ⟨args, []⟩ = pure ()) (ent : entryFor table initId = some Bi)
    (made : codeAny (model P w) A.in1 (.call (.builtin newId) ⟨.type T :: args, []⟩) (wants N E) s)
    (next : ∀ obj s₁, N obj s₁ → s₁.TypeIs obj T ∧ codeAny (model P w) A.in1 (.call (.builtin initId) ⟨obj :: args, []⟩) (wants (fun r s₂ => r = .none ∧ Q obj s₂) E) s₁) :
    wpAny (model P w) A (call (.type T) args) Q E s := by
  obtain ⟨_, _, hmro⟩ := ft.mro
  have hmade := ft.made
  have hsub := ft.sub
  have hno := ft.notType
  have hcan := ft.canCreate
  apply wpAny_call
  apply codeAny_of_tree
  show wpAny _ _ (callAny (.type T) _) _ _ _
  refine wpAny_pure ⟨Code.quiet_builtin _ (by decide +kernel), codeAny_builtin F.entry_type_call (by
    rw [Around.under_plain (weight_type_call_type T args []) rfl]
    repeat (any_goals (first | assumption | wp_step))
    refine codeAny_mono made fun r s₁ q => ?_
    match r, q with
    | .error e, q => exact q
    | .ok (.ret obj), q =>
      obtain ⟨_, hi⟩ := next _ _ q
      have hli := ft.init.lookup
      have hbi := ft.init.bind obj
      repeat (any_goals (first | assumption | wp_step))
      refine codeAny_mono hi fun r' s₂ q' => ?_
      match r', q' with
      | .error e, q' => exact q'
      | .ok (.ret v), q' =>
        obtain ⟨rfl, hq⟩ := q'
        repeat (any_goals (first | assumption | wp_step)))⟩
theorem call_set_txt {a : Addr} {items : Array Value} (ws : List Str) {Q : Value → Shared → Prop} (hh : A.handled = none) (hl : s.heap.IsList a items) (hit : StrsAre items.toList ws) (hb : ws.length + 1 < scanBound)
    (h : ∀ (h' : Heap) (tk : Nat) D l, h'.get? s.heap.objs.size = some (sObj "set" D) → TxS w D l → (∀ j, j ∈ l ↔ j ∈ ws) → (∀ b o, s.heap.get? b = some o → h'.get? b = some o) → Q (.ref s.heap.objs.size) { s with heap := h', toks := tk }) :
    wpAny (model P w) A (call (.type "set") [.ref a]) Q E s := by
  obtain ⟨hsz, hat⟩ := strs_at hit
  rw [Array.length_toList] at hsz
  refine type_run (N := fun obj s₁ => obj = .ref s.heap.objs.size ∧ s₁ = { s with heap := s.heap.push (newSet w) }) F.called_set (F.typeCall_set_1 _) F.entry_set_init (code_set_led1 (.ref a) ⟨rfl, rfl⟩) fun obj s₁ e => ?_
  obtain ⟨rfl, rfl⟩ := e
  have g0 : (s.heap.push (newSet w)).get? s.heap.objs.size = some (newSet w) := Heap.get?_push_size _ rfl
  have ty : Shared.TypeIs { s with heap := s.heap.push (newSet w) } (.ref s.heap.objs.size) "set" := ⟨_, g0, rfl⟩
  refine ⟨ty, codeAny_call_builtin F.called_set.init.plain F.entry_set_init (check_set_init_1 ty ?_)⟩
  have below : a < s.heap.objs.size := by
    obtain ⟨o, q, _⟩ := hl
    exact Heap.lt_size q
  have l1 : (s.heap.push (newSet w)).IsList a items := hl.push _
  have sz : (s.heap.push (newSet w)).objs.size = s.heap.objs.size + 1 := Heap.size_push ..
  have n1 : a ≠ (s.heap.push (newSet w)).objs.size := by rw [sz]; exact Nat.ne_of_lt (Nat.lt_succ_of_lt below)
  have n2 : s.heap.objs.size ∉ [(s.heap.push (newSet w)).objs.size, a] := by
    simp only [List.mem_cons, List.not_mem_nil, or_false, not_or]
    exact ⟨by rw [sz]; exact Nat.ne_of_lt (Nat.lt_succ_self _), Nat.ne_of_gt below⟩
  have cold : A.in1.in1.in1.handled = none := by simp [hh]
  obtain ⟨ol, q1, q2, nl, q3⟩ := id l1
  obtain ⟨ocls, odict, odata, oslots⟩ := ol
  simp only at q2 q3
  subst q2; subst q3
  have ns := F.sub_list_set
  have nf := F.sub_list_frozenset
  have nd : (Value.type "list" == Value.type "dict") = false := by decide
  unfold Builtin.«set.__init__» noKeywords Builtin.Frozenset.updateFrom
  generalize hPI : pyIter = PI
  wp_walk
  subst hPI
  refine wpAny_pyIter_list l1 (wpAny_bind (wpAny_runValue ?_))
  refine set_all_txt ((Walks.list cold _ a n1 items).toS) s.heap.objs.size n2 ws hsz hb (fun i v q => hat i v (by rw [Array.getElem?_toList]; exact q)) _ (fun s' q => q) items.size 0 _ (by omega) (Nat.zero_le _)
    ⟨⟨_, Heap.get?_push_size _ rfl, rfl, rfl⟩, l1.push _⟩ ⟨(#[], 0, .fresh 0 0 (!w.params.followText "set-order")), [], Heap.get?_push_of_some _ g0, .nil, fun j => by simp, Nat.le_refl 0⟩ fun s' m u => ?_
  obtain ⟨D, l, ho, F, hm, _⟩ := u
  have em : ∀ j, j ∈ l ↔ j ∈ ws := fun j => by rw [hm j, List.take_of_length_le (by omega)]
  obtain ⟨h', g2, d', tk', os'⟩ := s'
  obtain rfl : g2 = s.gens := m.gens
  obtain rfl : d' = s.drawn := m.drawn
  obtain rfl : os' = s.os := m.os
  have keep : ∀ b o, s.heap.get? b = some o → h'.get? b = some o := fun b o e => by
    have lt := Heap.lt_size e
    exact m.heap b o (by simp only [List.mem_cons, List.not_mem_nil, or_false, not_or]; exact ⟨Nat.ne_of_lt lt, by rw [sz]; exact Nat.ne_of_lt (Nat.lt_succ_of_lt lt)⟩) (Heap.get?_push_of_some _ (Heap.get?_push_of_some _ e))
  exact wpAny_pure (wpAny_pure ⟨rfl, h _ _ _ _ ho F em keep⟩)
theorem sorted_txt {a : Addr} {Q : Value → Shared → Prop} (ho : s.heap.get? a = some (sObj "set" D)) (F : TxS w D l) (hh : A.handled = none) (h64 : l.length < 64)
    (hQ : ∀ s' p (out : Array Value) (c : Nat) (ys : List Str), (∀ b o, s.heap.get? b = some o → s'.heap.get? b = some o) → s'.gens = s.gens → s'.os = s.os → s.heap.objs.size ≤ p →
      s'.heap.get? p = some (seqObj "list" out c) → StrsAre out.toList ys → ys.Perm l → sortedS ys = true → Q (.ref p) s') :
    wpAny (model P w) A (call (.builtin "sorted") [.ref a]) Q E s := by
  have hsz := F.size
  have hp := F.perm
  have hg := F.good
  obtain ⟨es, ep, t⟩ := D
  refine Calls.call_function_entry kind_sorted plain_sorted entry_sorted (args_sorted1 _) ?_
  unfold Builtin.«sorted»
  refine wpAny_bind (m := checkCount "sorted" 1 1 _) (wpAny_pure ?_)
  have hsb : es.size < scanBound := by
    have : es.size = l.length := hsz
    unfold scanBound; omega
  refine wpAny_bind (collect_set (A := A.in1) hh ⟨_, ho, rfl, rfl⟩ F.fit hsb F.ris F.led fun s1 vs k1 hz g1 o1 pm => ?_)
  have hvl : vs.length = l.length := by rw [pm.length_eq, List.length_map, Array.length_toList]; exact hsz
  have hI : StrsAre vs (vs.map PyProof.Rows.strOf) := strsAre_map vs fun v hv => by
    obtain ⟨e, he, q⟩ := List.mem_map.mp (pm.mem_iff.mp hv)
    obtain ⟨k, tk, h1, _⟩ := hg e he
    exact ⟨k, tk, by rw [← q]; exact h1⟩
  have pk : (vs.map PyProof.Rows.strOf).Perm l := by
    have q := pm.map PyProof.Rows.strOf
    rw [List.map_map] at q
    exact q.trans hp
  refine wpAny_bind (wpAny_newList ?_ (by rw [hvl, sizeLine_eq]; omega))
  have hoL : (s1.heap.push (seqObj "list" vs.toArray 0)).get? s1.heap.objs.size = some (seqObj "list" vs.toArray 0) := Heap.get?_push_size _ rfl
  refine wpAny_bind (wpAny_holding (wpAny_call_entry slot_list_sort ⟨_, hoL, rfl⟩ entry_list_sort (list_sort_treeK strKind_oneLt hoL hI.keysOf (fun v₁ v₂ rest e => keyKind_strs (by rw [← e]; exact hI)) (by rw [hvl]; exact h64) fun st' a1 a2 => ⟨_, rfl, ?_⟩) (args_list_sort _)))
  obtain ⟨ys, h1, h2, h3⟩ := sorted_out_str hI a1 a2
  obtain ⟨c, hc⟩ := sortedHeap_at (vs := vs) (out := (arrOf st').map (·.2)) hoL
  refine wpAny_pure ⟨_, rfl, hQ _ s1.heap.objs.size _ c ys (fun b u e => ?_) g1 o1 hz hc h1 (h2.trans pk) h3⟩
  have q := k1 b u e
  have hlt := Heap.lt_size q
  show (sortedHeap (s1.heap.push (seqObj "list" vs.toArray 0)) s1.heap.objs.size vs _).get? b = some u
  rw [sortedHeap_old (Nat.ne_of_lt hlt) (by rw [size_push']; exact Nat.lt_succ_of_lt hlt)]
  exact Heap.get?_push_of_some _ q
/-! ### as rules -/
def TxO (w : World) (a : Addr) (l : List Str) : HO := .ext fun h => ∃ D, h.get? a = some (sObj "set" D) ∧ TxS w D l
theorem txO_new {H : Hp} {h : Heap} {a : Addr} (ho : h.get? a = some (sObj "set" D)) (F : TxS w D l) : ObjOk P w H h a (TxO w a l) :=
  ⟨⟨D, ho, F⟩, ⟨_, ho⟩, fun h1 h2 ⟨D', p, f⟩ k => ⟨D', k _ p, f⟩⟩
end
section
variable {X : Cx}
theorem txO_get {pins : List (Addr × Obj)} {σ : L2.St} {H : Hp} {s : Shared} {a : Addr} {l : List Str} (I : Inv X pins σ H s) (ha : H a = some (TxO X.w a l)) : ∃ D, s.heap.get? a = some (sObj "set" D) ∧ TxS X.w D l := (I.hok a _ ha).1
def rSetT (K : PySem.W.Frag) (w : World) : List V → Hp → VK → Prop := fun vs H Q => ∃ (a : Addr) (ws : List Str), vs = [V.ref a] ∧ SqL K H a (ws.map V.str) ∧ ws.length + 1 < scanBound ∧
  ∀ (p : Addr) (l : List Str), l.Nodup → (∀ j, j ∈ l ↔ j ∈ ws) → H p = none → Q (.ref p) (upd H p (TxO w p l))
theorem cr_setT (hc : X.calm = true) : CallR X (.type "set") (rSetT X.K X.w) := by
  intro pins s σ H vs us Q I r h
  obtain ⟨a, ws, rfl, hs, hb, q⟩ := h
  obtain ⟨its, rv, hl, _⟩ := I.list hs
  rw [Vals.ref1 r]
  refine call_set_txt ws (I.ok.hd hc) hl.isList (by simpa using rv.strs) hb fun h' tk D l ho F hm k => ?_
  exact ⟨.ref _, upd H s.heap.objs.size (TxO X.w s.heap.objs.size l), I.laid (t' := tk) k (Nat.le_refl _) (txO_new ho F), rfl, q _ l F.nd hm (I.hok.fresh (Nat.le_refl _))⟩
def rSortedT (w : World) : List V → Hp → VK → Prop := fun vs H Q => ∃ (a : Addr) (l : List Str), vs = [V.ref a] ∧ H a = some (TxO w a l) ∧ l.length < 64 ∧
  ∀ (ys : List Str) (p : Addr), ys.Perm l → sortedS ys = true → H p = none → Q (.ref p) (upd H p (.lst (ys.map V.str)))
theorem cr_sortedT (hc : X.calm = true) : CallR X (.builtin "sorted") (rSortedT X.w) := by
  intro pins s σ H vs us Q I r h
  obtain ⟨a, l, rfl, ha, h64, q⟩ := h
  obtain ⟨D, ho, F⟩ := txO_get I ha
  rw [Vals.ref1 r]
  refine sorted_txt ho F (I.ok.hd hc) h64 fun s' p out c ys k g o hp hg hi hs hm => ?_
  have hlen : (ys.map V.str).length ≤ sizeLine := by rw [List.length_map, hs.length_eq, sizeLine_eq]; omega
  have hn : H p = none := I.hok.fresh hp
  have J : Inv X pins σ (upd H p (.lst (ys.map V.str))) { s with heap := s'.heap, gens := s'.gens, drawn := s'.drawn, toks := s'.toks } :=
    I.call (ch := []) (Un.laid k hp hn) (I.hok.laid k hp ⟨hlen, out.toList, c, vals_of_strs hi, hg⟩) (by rw [g]; exact I.bare) (fun _ z => nomatch z)
  have e : s' = { s with heap := s'.heap, gens := s'.gens, drawn := s'.drawn, toks := s'.toks } := by
    cases s'
    cases s
    cases o
    rfl
  rw [e]
  exact ⟨.ref p, _, J, rfl, q ys p hs hm hn⟩
end
end Cb
namespace Cb
open PySem PySem.Spec PyProof.Rows L2
section
variable {X : Cx}
def dedS : List Str → List Str
  | [] => []
  | x :: r => if x ∈ dedS r then dedS r else x :: dedS r
theorem dedS_mem : ∀ (l : List Str) (j : Str), j ∈ dedS l ↔ j ∈ l
  | [], j => by simp [dedS]
  | x :: r, j => by
    have ih := dedS_mem r
    unfold dedS
    split
    · rename_i h
      rw [ih j, List.mem_cons]
      exact ⟨.inr, fun q => q.elim (fun e => e ▸ (ih x).1 h) id⟩
    · rw [List.mem_cons, List.mem_cons, ih j]
theorem dedS_nodup : ∀ l : List Str, (dedS l).Nodup
  | [] => List.nodup_nil
  | x :: r => by
    unfold dedS
    split
    · exact dedS_nodup r
    · rename_i h; exact List.nodup_cons.mpr ⟨h, dedS_nodup r⟩
theorem perm_nodup {l l' : List Str} (n1 : l.Nodup) (n2 : l'.Nodup) (h : ∀ j, j ∈ l ↔ j ∈ l') : l.Perm l' := by
  rw [List.perm_iff_count]
  intro a
  by_cases ha : a ∈ l
  · rw [List.Nodup.count n1, List.Nodup.count n2, if_pos ha, if_pos ((h a).1 ha)]
  · rw [List.Nodup.count n1, List.Nodup.count n2, if_neg ha, if_neg fun q => ha ((h a).2 q)]
def blSS : Bl := fun ds S => match ds with
  | [d] => (seqL S d).bind fun xs => (strL xs).bind fun l => if l.length < 4000 ∧ (dedS l).length < 64 then some ((sortS (dedS l)).map .str) else none
  | _ => none
variable {C : Addr} {pos p1 p2 p3 : Pos} {e : Expr} {es : List Expr} {tA : TA} {g : A}
theorem s_sset {K : PySem.W.Frag} {w : World} (h : ASem C K tA g) : LSem C K (tCB (rSortedT w) (tCons (tCB (rSetT K w) tA) tNil)) (lBi blSS g) := fun m σ H δ S d S' Q er sr hf q => by
  unfold lBi at hf
  obtain ⟨⟨ds, S1⟩, q1, hf⟩ := Option.bind_eq_some_iff.mp hf
  obtain ⟨d2, q2, hf⟩ := Option.bind_eq_some_iff.mp hf
  cases hf
  unfold blSS at q2
  refine h m σ H δ S ds S1 _ er sr q1 fun vs m1 H1 e1 s1 r1 => ?_
  split at q2
  · rename_i d0 hk
    have hk : ds = [d0] := hk
    subst hk
    obtain ⟨ys, g1, q2⟩ := Option.bind_eq_some_iff.mp q2
    obtain ⟨l, g2, q2⟩ := Option.bind_eq_some_iff.mp q2
    split at q2
    · rename_i h64
      cases q2
      cases r1 with
      | cons r1 rr =>
        cases rr
        obtain ⟨a, xs, ea, h3, h4⟩ := rp_seqL s1 r1 g1
        subst ea
        have ev := strL_rp h4 g2
        subst ev
        refine ⟨a, l, rfl, h3, by unfold scanBound; omega, fun p l' nd hm hp => ?_⟩
        have pm := perm_nodup nd (dedS_nodup l) fun j => (hm j).trans (dedS_mem l j).symm
        refine ⟨p, l', rfl, upd_same, by rw [pm.length_eq]; exact h64.2, fun zs p' hz hs hp' => ?_⟩
        rw [sortS_eq (hz.trans pm) hs]
        have s2 : SR C K m1 (upd H1 p (TxO w p l')) S1 := s1.lay hp
        have e2 : Ev m H m1 (upd H1 p (TxO w p l')) := e1.trans (.lay hp)
        exact q p' _ m1 _ (e2.trans (.lay hp')) (e2.free s2 hp') upd_same (s2.hideLay hp') ((RpAll.strs _).hide hp' (.lay hp'))
    · cases q2
  · cases q2
theorem rl_sset (hc : X.calm = true) (hg : Gl X "sorted") (hm : X.mg "sorted" = none) (hg2 : Gl X "set") (hm2 : X.mg "set" = none) (ha : RA X C (e :: es) tA g)
    (he : starEach (e :: es) X.env = (false, eval e X.env) :: starEach es X.env := by rfl) (hpl : (backTo p2 (starEach es X.env)).any (·.1) = false := by rfl) :
    RL X C (.Call (.Name "sorted" p1) [.Call (.Name "set" p3) (e :: es) [] p2] [] pos) (tCB (rSortedT X.w) (tCons (tCB (rSetT X.K X.w) tA) tNil)) (lBi blSS g) :=
  ⟨pe_callB (cr_sortedT hc) hg hm (by decide +kernel) (pa_cons (pe_callTy (cr_setT hc) hg2 hm2 (by decide +kernel) ha.p (by decide) (by decide) he hpl) pa_nil), s_sset ha.s⟩
/-! range(0, j, 2) -/
def range2D (j : Int) : List D := (List.range ((j + 1) / 2).toNat).map fun i => D.int (0 + (i : Nat) * 2)
def iRange3 (g : A) : A := fun δ S => (g δ S).bind fun p => match p.1 with
  | [.int i, .int j, .int c] => if i = 0 ∧ c = 2 ∧ 0 ≤ j ∧ j < 2 ^ 20 then some (range2D j, p.2) else none
  | _ => none
theorem rgc_two {j : Int} (h0 : 0 ≤ j) (h1 : j < 2 ^ 20) : RgC 0 j 2 ((j + 1) / 2).toNat := by
  have e : Builtin.Range.rangeSize 0 j 2 = (((j + 1) / 2).toNat : Int) := by
    unfold Builtin.Range.rangeSize
    rw [if_pos (by decide)]
    split <;> omega
  refine ⟨by decide, by decide, ?_, e⟩
  unfold Builtin.Range.small
  rw [e]
  simp only [Builtin.Range.rangeFitsLong, Bool.and_eq_true, Bool.or_eq_true, decide_eq_true_eq, beq_iff_eq]
  simp
  omega
theorem yld_range2 {K : PySem.W.Frag} {m : M} {H : Hp} (j : Int) : Yld C K (Itc 0 2 ((j + 1) / 2).toNat) m H (range2D j) := fun m2 H2 S2 e2 s2 => by
  have hl : (range2D j).length = ((j + 1) / 2).toNat := by simp [range2D]
  refine ⟨fun i h => ?_, ?_, fun i d x H' hd y => ?_⟩
  · show i < ((j + 1) / 2).toNat
    omega
  · show ((j + 1) / 2).toNat ≤ _
    omega
  · obtain ⟨ey, ex⟩ := y
    subst ey; subst ex
    have hi' : i < ((j + 1) / 2).toNat := by
      have := (List.getElem?_eq_some_iff.mp hd).1
      omega
    unfold range2D at hd
    rw [List.getElem?_map, List.getElem?_range hi'] at hd
    cases hd
    exact ⟨.refl, s2, .int _⟩
theorem ri_range3 {a b c tg : Expr} {p : Pos} (hg : Gl X "range") (hm : X.mg "range" = none) (ha : RA X C [a, b, c] tA g) (hs : starEach [a, b, c] X.env = (false, eval a X.env) :: starEach [b, c] X.env := by rfl) (hpl : (backTo pos (starEach [b, c] X.env)).any (·.1) = false := by rfl) : RI X C tg (.Call (.Name "range" p) [a, b, c] [] pos) (iRng3 tA) (iRange3 g) := ⟨pi_range3 hg hm ha.p hs hpl, fun m σ H δ S items S' R er sr hf q => by
  unfold iRange3 at hf
  obtain ⟨⟨ds, S1⟩, q1, hf⟩ := Option.bind_eq_some_iff.mp hf
  refine ha.s m σ H δ S _ S1 _ er sr q1 fun v m1 H1 e1 s1 r1 => ?_
  split at hf
  · rename_i i j c hk
    have hk : ds = [.int i, .int j, .int c] := hk
    subst hk
    split at hf
    · rename_i hb
      obtain ⟨rfl, rfl, h0, h1⟩ := hb
      cases hf
      cases r1 with
      | cons r1 rr =>
        cases rr with
        | cons r2 rr =>
          cases rr with
          | cons r3 rr =>
            cases rr; cases r1; cases r2; cases r3
            exact ⟨0, j, 2, _, rfl, rgc_two h0 h1, q _ m1 H1 e1 s1 (yld_range2 j)⟩
    · cases hf
  · cases hf⟩
end
end Cb
namespace Cb
open PySem PySem.Spec PyProof.Rows L2

/-! ## pieces, plain -/
mutual
inductive Pc where
  | num (n : Int) | name (x : Str) | fn (a : Int) (x : Str) (b : Pc) | call (a : Int) (f g : Pc) | plus (a : Int) (f g : Pc) | pick (a : Int) (c f g : Pc)
  | rnd (b : Pc) | take (a : Int) (x : Str) (b : Pc) | shut (a : Int) (x : Str) (b : Pc) | kept (a : Int) (fs : List Fr)
inductive Fr where
  | caller (a : Int) (p : Pc) | given (a : Int) (v : Pc) | adder (a : Int) (p : Pc) | added (a : Int) (v : Pc) | picker (a : Int) (p q : Pc) | rnd
end
mutual
def Pc.d : Pc → D
  | .num n => .tup [.str "num", .int n]
  | .name x => .tup [.str "name", .str x]
  | .fn a x b => .tup [.str "fun", .int a, .str x, b.d]
  | .call a f g => .tup [.str "call", .int a, f.d, g.d]
  | .plus a f g => .tup [.str "plus", .int a, f.d, g.d]
  | .pick a c f g => .tup [.str "pick", .int a, c.d, f.d, g.d]
  | .rnd b => .tup [.str "round", b.d]
  | .take a x b => .tup [.str "take", .int a, .str x, b.d]
  | .shut a x b => .tup [.str "shut", .int a, .str x, b.d]
  | .kept a fs => .tup [.str "kept", .int a, .tup (Fr.ds fs)]
def Fr.d : Fr → D
  | .caller a p => .tup [.str "caller", .int a, p.d]
  | .given a p => .tup [.str "given", .int a, p.d]
  | .adder a p => .tup [.str "adder", .int a, p.d]
  | .added a p => .tup [.str "added", .int a, p.d]
  | .picker a p q => .tup [.str "picker", .int a, p.d, q.d]
  | .rnd => .tup [.str "round"]
def Fr.ds : List Fr → List D
  | [] => []
  | f :: fs => f.d :: Fr.ds fs
end
def Pc.isV : Pc → Bool
  | .num _ | .shut .. | .kept .. => true
  | _ => false
def put (x : Str) (v : Pc) : Pc → Pc
  | .num n => .num n
  | .name y => if y = x then v else .name y
  | .fn a y b => if y = x then .fn a y b else .fn a y (put x v b)
  | .call a f g => .call a (put x v f) (put x v g)
  | .plus a f g => .plus a (put x v f) (put x v g)
  | .pick a c f g => .pick a (put x v c) (put x v f) (put x v g)
  | .rnd b => .rnd (put x v b)
  | .take a y b => if y = x then .take a y b else .take a y (put x v b)
  | .shut a y b => .shut a y b
  | .kept a fs => .kept a fs
/-- how deep a piece is, but for what stands in values -/
def cd : Pc → Nat
  | .num _ | .name _ | .shut .. | .kept .. => 1
  | .fn _ _ b => cd b + 1
  | .call _ f g => max (cd f) (cd g) + 1
  | .plus _ f g => max (cd f) (cd g) + 1
  | .pick _ c f g => max (cd c) (max (cd f) (cd g)) + 1
  | .rnd b => cd b + 1
  | .take _ _ b => cd b + 1

theorem ofString_inj {a b : String} : (Str.ofString a = Str.ofString b) ↔ a = b := by
  constructor
  · intro h
    rw [Str.ofString_eq_toList, Str.ofString_eq_toList] at h
    have h1 : (a.toList.map Char.toNat).toArray = (b.toList.map Char.toNat).toArray := by injection h
    have h2 : a.toList.map Char.toNat = b.toList.map Char.toNat := by simpa using h1
    have h3 : a.toList = b.toList := by
      have inj : ∀ (l l' : List Char), l.map Char.toNat = l'.map Char.toNat → l = l' := by
        intro l
        induction l with
        | nil => intro l' h; cases l' with | nil => rfl | cons _ _ => simp at h
        | cons c l ih =>
          intro l' h
          cases l' with
          | nil => simp at h
          | cons c' l' =>
            simp only [List.map_cons, List.cons.injEq] at h
            have : c = c' := Char.ext (UInt32.toNat_inj.mp h.1)
            rw [this, ih l' h.2]
      exact inj _ _ h2
    exact String.ext_iff.mpr h3
  · intro h; rw [h]
theorem ofString_beq {a b : String} : (Str.ofString a == Str.ofString b) = decide (a = b) := by
  rw [Bool.eq_iff_iff, beq_iff_eq, decide_eq_true_iff]
  exact ofString_inj
end Cb
namespace Cb
open PySem PySem.Spec PyProof.Rows L2
/-! ## runs, step by step: equations that fire only where the part ahead is known -/
def varK (o : Option (Option D)) (S : List O) : Option (D × List O) := match o with | some (some d) => some (d, S) | _ => none
theorem varK_1 {S : List O} {d : D} : varK (some (some d)) S = some (d, S) := id rfl
theorem eVar_u {i : Nat} {δ : Sl} {S : List O} : eVar i δ S = varK (δ[i]?) S := id rfl
theorem eC_u {d : D} {δ : Sl} {S : List O} : eC d δ S = some (d, S) := id rfl
theorem aNil_u {δ : Sl} {S : List O} : aNil δ S = some ([], S) := id rfl
def acK2 (d : D) (o : Option (List D × List O)) : Option (List D × List O) := match o with | some (ds, S) => some (d :: ds, S) | none => none
def acK1 (g : A) (δ : Sl) (o : Option (D × List O)) : Option (List D × List O) := match o with | some (d, S) => acK2 d (g δ S) | none => none
theorem acK1_1 {g : A} {δ : Sl} {d : D} {S : List O} : acK1 g δ (some (d, S)) = acK2 d (g δ S) := id rfl
theorem acK2_1 {d : D} {ds : List D} {S : List O} : acK2 d (some (ds, S)) = some (d :: ds, S) := id rfl
theorem aCons_u {f : E} {g : A} {δ : Sl} {S : List O} : aCons f g δ S = acK1 g δ (f δ S) := by unfold aCons acK1; cases f δ S with | none => rfl | some p => (obtain ⟨d, S1⟩ := p; show ((g δ S1).bind _) = acK2 d (g δ S1); cases g δ S1 <;> rfl)
def tupK (o : Option (List D × List O)) : Option (D × List O) := match o with | some (ds, S) => if ds.length ≤ 1000 then some (.tup ds, S) else none | none => none
theorem tupK_1 {ds : List D} {S : List O} : tupK (some (ds, S)) = if ds.length ≤ 1000 then some (.tup ds, S) else none := id rfl
theorem eTup_u {g : A} {δ : Sl} {S : List O} : eTup g δ S = tupK (g δ S) := by unfold eTup; cases g δ S <;> rfl
def ldK (o : Option (List D × List O)) : Option (List D × List O) := match o with | some (ds, S) => if ds.length ≤ 1000 then some (ds, S) else none | none => none
theorem ldK_1 {ds : List D} {S : List O} : ldK (some (ds, S)) = if ds.length ≤ 1000 then some (ds, S) else none := id rfl
theorem lDisp_u {g : A} {δ : Sl} {S : List O} : lDisp g δ S = ldK (g δ S) := by unfold lDisp; cases g δ S <;> rfl
def eLK (o : Option (List D × List O)) : Option (D × List O) := match o with | some (ds, S) => some (.lst ds, S) | none => none
def eLMK (o : Option (List D × List O)) : Option (D × List O) := match o with | some (ds, S) => some (.ref S.length, S ++ [.lst ds]) | none => none
theorem eLK_1 {ds : List D} {S : List O} : eLK (some (ds, S)) = some (.lst ds, S) := id rfl
theorem eLMK_1 {ds : List D} {S : List O} : eLMK (some (ds, S)) = some (.ref S.length, S ++ [.lst ds]) := id rfl
theorem eL_u {g : A} {δ : Sl} {S : List O} : eL g δ S = eLK (g δ S) := by unfold eL; cases g δ S <;> rfl
theorem eLM_u {g : A} {δ : Sl} {S : List O} : eLM g δ S = eLMK (g δ S) := by unfold eLM; cases g δ S <;> rfl
def eDiK (o : Option (List (Key × D) × List O)) : Option (D × List O) := match o with | some (ds, S) => some (.dic ds, S) | none => none
def eDMK (o : Option (List (Key × D) × List O)) : Option (D × List O) := match o with | some (ds, S) => some (.ref S.length, S ++ [.dic ds]) | none => none
theorem eDiK_1 {ds : List (Key × D)} {S : List O} : eDiK (some (ds, S)) = some (.dic ds, S) := id rfl
theorem eDMK_1 {ds : List (Key × D)} {S : List O} : eDMK (some (ds, S)) = some (.ref S.length, S ++ [.dic ds]) := id rfl
theorem eDi_u {g : DD} {δ : Sl} {S : List O} : eDi g δ S = eDiK (g δ S) := by unfold eDi; cases g δ S <;> rfl
theorem eDM_u {g : DD} {δ : Sl} {S : List O} : eDM g δ S = eDMK (g δ S) := by unfold eDM; cases g δ S <;> rfl
def opK3 (S : List O) (o : Option D) : Option (D × List O) := match o with | some d => some (d, S) | none => none
def opK2 (g : Op2) (d : D) (o : Option (D × List O)) : Option (D × List O) := match o with | some (e, S) => opK3 S (g d e S) | none => none
def opK1 (g : Op2) (f : E) (δ : Sl) (o : Option (D × List O)) : Option (D × List O) := match o with | some (d, S) => opK2 g d (f δ S) | none => none
theorem opK1_1 {g : Op2} {f : E} {δ : Sl} {d : D} {S : List O} : opK1 g f δ (some (d, S)) = opK2 g d (f δ S) := id rfl
theorem opK2_1 {g : Op2} {d e : D} {S : List O} : opK2 g d (some (e, S)) = opK3 S (g d e S) := id rfl
theorem opK3_1 {d : D} {S : List O} : opK3 S (some d) = some (d, S) := id rfl
theorem eOp_u {g : Op2} {f1 f2 : E} {δ : Sl} {S : List O} : eOp g f1 f2 δ S = opK1 g f2 δ (f1 δ S) := by unfold eOp opK1; cases f1 δ S with | none => rfl | some p => (obtain ⟨d, S1⟩ := p; show ((f2 δ S1).bind _) = opK2 g d (f2 δ S1); cases f2 δ S1 with | none => rfl | some q => (obtain ⟨e, S2⟩ := q; show ((g d e S2).bind _) = opK3 S2 (g d e S2); cases g d e S2 <;> rfl))
def negK (o : Option (D × List O)) : Option (D × List O) := match o with | some (.int i, S) => some (.int (-i), S) | _ => none
theorem negK_1 {i : Int} {S : List O} : negK (some (.int i, S)) = some (.int (-i), S) := id rfl
theorem eNeg_u {f : E} {δ : Sl} {S : List O} : eNeg f δ S = negK (f δ S) := by unfold eNeg; cases f δ S with | none => rfl | some p => (obtain ⟨d, S1⟩ := p; cases d <;> rfl)
def slK4 (S : List O) (o : Option D) : Option (D × List O) := match o with | some d => some (d, S) | none => none
def slK3 (d : D) (l : Option Int) (o : Option (Option Int × List O)) : Option (D × List O) := match o with | some (h, S) => slK4 S (dSlice d l h S) | none => none
def slK2 (d : D) (hi : Pt) (δ : Sl) (o : Option (Option Int × List O)) : Option (D × List O) := match o with | some (l, S) => slK3 d l (hi δ S) | none => none
def slK1 (lo hi : Pt) (δ : Sl) (o : Option (D × List O)) : Option (D × List O) := match o with | some (d, S) => slK2 d hi δ (lo δ S) | none => none
def ptSK (o : Option (D × List O)) : Option (Option Int × List O) := match o with | some (.int i, S) => some (some i, S) | _ => none
theorem slK1_1 {lo hi : Pt} {δ : Sl} {d : D} {S : List O} : slK1 lo hi δ (some (d, S)) = slK2 d hi δ (lo δ S) := id rfl
theorem slK2_1 {hi : Pt} {δ : Sl} {d : D} {l : Option Int} {S : List O} : slK2 d hi δ (some (l, S)) = slK3 d l (hi δ S) := id rfl
theorem slK3_1 {d : D} {l h : Option Int} {S : List O} : slK3 d l (some (h, S)) = slK4 S (dSlice d l h S) := id rfl
theorem slK4_1 {d : D} {S : List O} : slK4 S (some d) = some (d, S) := id rfl
theorem ptSK_1 {i : Int} {S : List O} : ptSK (some (.int i, S)) = some (some i, S) := id rfl
theorem ptN_u {δ : Sl} {S : List O} : ptN δ S = some (none, S) := id rfl
theorem ptS_u {f : E} {δ : Sl} {S : List O} : ptS f δ S = ptSK (f δ S) := by unfold ptS; cases f δ S with | none => rfl | some p => (obtain ⟨d, S1⟩ := p; cases d <;> rfl)
theorem eSlice_u {f : E} {lo hi : Pt} {δ : Sl} {S : List O} : eSlice f lo hi δ S = slK1 lo hi δ (f δ S) := by unfold eSlice slK1; cases f δ S with | none => rfl | some p => (obtain ⟨d, S1⟩ := p; show ((lo δ S1).bind _) = slK2 d hi δ (lo δ S1); cases lo δ S1 with | none => rfl | some q => (obtain ⟨l, S2⟩ := q; show ((hi δ S2).bind _) = slK3 d l (hi δ S2); cases hi δ S2 with | none => rfl | some r => (obtain ⟨h, S3⟩ := r; show ((dSlice d l h S3).bind _) = slK4 S3 (dSlice d l h S3); cases dSlice d l h S3 <;> rfl)))
def callK (n : Nat) (F : Fn) (o : Option (List D × List O)) : Option (D × List O) := match o with | some (ds, S) => if ds.length = n then F ds S else none | none => none
theorem callK_1 {n : Nat} {F : Fn} {ds : List D} {S : List O} : callK n F (some (ds, S)) = if ds.length = n then F ds S else none := id rfl
theorem eCall_u {n : Nat} {F : Fn} {g : A} {δ : Sl} {S : List O} : eCall n F g δ S = callK n F (g δ S) := by unfold eCall; cases g δ S <;> rfl
def biK (k : Bi) (o : Option (List D × List O)) : Option (D × List O) := match o with | some (ds, S) => opK3 S (k ds S) | none => none
def blK2 (S : List O) (o : Option (List D)) : Option (List D × List O) := match o with | some d => some (d, S) | none => none
def blK (k : Bl) (o : Option (List D × List O)) : Option (List D × List O) := match o with | some (ds, S) => blK2 S (k ds S) | none => none
theorem biK_1 {k : Bi} {ds : List D} {S : List O} : biK k (some (ds, S)) = opK3 S (k ds S) := id rfl
theorem blK_1 {k : Bl} {ds : List D} {S : List O} : blK k (some (ds, S)) = blK2 S (k ds S) := id rfl
theorem blK2_1 {ds : List D} {S : List O} : blK2 S (some ds) = some (ds, S) := id rfl
theorem eBi_u {k : Bi} {g : A} {δ : Sl} {S : List O} : eBi k g δ S = biK k (g δ S) := by unfold eBi; cases g δ S with | none => rfl | some p => (obtain ⟨ds, S1⟩ := p; show ((k ds S1).bind _) = opK3 S1 (k ds S1); cases k ds S1 <;> rfl)
theorem lBi_u {k : Bl} {g : A} {δ : Sl} {S : List O} : lBi k g δ S = blK k (g δ S) := by unfold lBi; cases g δ S with | none => rfl | some p => (obtain ⟨ds, S1⟩ := p; show ((k ds S1).bind _) = blK2 S1 (k ds S1); cases k ds S1 <;> rfl)
def isiK2 (S : List O) (o : Option Bool) : Option (D × List O) := match o with | some b => some (.bl b, S) | none => none
def isiK (T : String) (o : Option (D × List O)) : Option (D × List O) := match o with | some (d, S) => isiK2 S (isD T S d) | none => none
theorem isiK_1 {T : String} {d : D} {S : List O} : isiK T (some (d, S)) = isiK2 S (isD T S d) := id rfl
theorem isiK2_1 {b : Bool} {S : List O} : isiK2 S (some b) = some (.bl b, S) := id rfl
theorem eIsi_u {T : String} {f : E} {δ : Sl} {S : List O} : eIsi T f δ S = isiK T (f δ S) := by unfold eIsi; cases f δ S with | none => rfl | some p => (obtain ⟨d, S1⟩ := p; show ((isD T S1 d).bind _) = isiK2 S1 (isD T S1 d); cases isD T S1 d <;> rfl)
def revK2 (S : List O) (o : Option (List D)) : Option (List D × List O) := match o with | some ds => some (ds.reverse, S) | none => none
def revK (o : Option (D × List O)) : Option (List D × List O) := match o with | some (d, S) => revK2 S (seqL S d) | none => none
theorem revK_1 {d : D} {S : List O} : revK (some (d, S)) = revK2 S (seqL S d) := id rfl
theorem revK2_1 {ds : List D} {S : List O} : revK2 S (some ds) = some (ds.reverse, S) := id rfl
theorem lRev_u {f : E} {δ : Sl} {S : List O} : lRev f δ S = revK (f δ S) := by unfold lRev; cases f δ S with | none => rfl | some p => (obtain ⟨d, S1⟩ := p; show ((seqL S1 d).bind _) = revK2 S1 (seqL S1 d); cases seqL S1 d <;> rfl)
def andEK (g : E) (δ : Sl) (o : Option (D × List O)) : Option (D × List O) := match o with | some (.bl true, S) => g δ S | some (.bl false, S) => some (.bl false, S) | _ => none
def orEK (g : E) (δ : Sl) (o : Option (D × List O)) : Option (D × List O) := match o with | some (.bl true, S) => some (.bl true, S) | some (.bl false, S) => g δ S | _ => none
def notEK (o : Option (D × List O)) : Option (D × List O) := match o with | some (.bl b, S) => some (.bl (!b), S) | _ => none
def orSK (g : E) (δ : Sl) (o : Option (D × List O)) : Option (D × List O) := match o with | some (.str x, S) => if x.length ≤ sizeLine then (if (x.length : Int) != 0 then some (.str x, S) else g δ S) else none | _ => none
def ifEK (g h : E) (δ : Sl) (o : Option (Bool × List O)) : Option (D × List O) := match o with | some (true, S) => g δ S | some (false, S) => h δ S | none => none
def tofK (o : Option (D × List O)) : Option (Bool × List O) := match o with | some (.bl b, S) => some (b, S) | _ => none
theorem andEK_1 {g : E} {δ : Sl} {S : List O} : andEK g δ (some (.bl true, S)) = g δ S := id rfl
theorem andEK_2 {g : E} {δ : Sl} {S : List O} : andEK g δ (some (.bl false, S)) = some (.bl false, S) := id rfl
theorem orEK_1 {g : E} {δ : Sl} {S : List O} : orEK g δ (some (.bl true, S)) = some (.bl true, S) := id rfl
theorem orEK_2 {g : E} {δ : Sl} {S : List O} : orEK g δ (some (.bl false, S)) = g δ S := id rfl
theorem notEK_1 {b : Bool} {S : List O} : notEK (some (.bl b, S)) = some (.bl (!b), S) := id rfl
theorem orSK_1 {g : E} {δ : Sl} {x : Str} {S : List O} : orSK g δ (some (.str x, S)) = if x.length ≤ sizeLine then (if (x.length : Int) != 0 then some (.str x, S) else g δ S) else none := id rfl
theorem ifEK_1 {g h : E} {δ : Sl} {S : List O} : ifEK g h δ (some (true, S)) = g δ S := id rfl
theorem ifEK_2 {g h : E} {δ : Sl} {S : List O} : ifEK g h δ (some (false, S)) = h δ S := id rfl
theorem tofK_1 {b : Bool} {S : List O} : tofK (some (.bl b, S)) = some (b, S) := id rfl
theorem eAnd_u {f g : E} {δ : Sl} {S : List O} : eAnd f g δ S = andEK g δ (f δ S) := by unfold eAnd; cases f δ S with | none => rfl | some p => (obtain ⟨d, S1⟩ := p; cases d with | bl b => cases b <;> rfl | _ => rfl)
theorem eOr_u {f g : E} {δ : Sl} {S : List O} : eOr f g δ S = orEK g δ (f δ S) := by unfold eOr; cases f δ S with | none => rfl | some p => (obtain ⟨d, S1⟩ := p; cases d with | bl b => cases b <;> rfl | _ => rfl)
theorem eNot_u {f : E} {δ : Sl} {S : List O} : eNot f δ S = notEK (f δ S) := by unfold eNot; cases f δ S with | none => rfl | some p => (obtain ⟨d, S1⟩ := p; cases d <;> rfl)
theorem eOrS_u {f g : E} {δ : Sl} {S : List O} : eOrS f g δ S = orSK g δ (f δ S) := by unfold eOrS; cases f δ S with | none => rfl | some p => (obtain ⟨d, S1⟩ := p; cases d <;> rfl)
theorem eIf_u {f : T} {g h : E} {δ : Sl} {S : List O} : eIf f g h δ S = ifEK g h δ (f δ S) := by unfold eIf; cases f δ S with | none => rfl | some p => (obtain ⟨b, S1⟩ := p; cases b <;> rfl)
theorem tOf_u {f : E} {δ : Sl} {S : List O} : tOf f δ S = tofK (f δ S) := by unfold tOf; cases f δ S with | none => rfl | some p => (obtain ⟨d, S1⟩ := p; cases d <;> rfl)
def chK5 (S : List O) (o : Option D) : Option (D × List O) := opK3 S o
def chK4 (g : Op2) (d : D) (o : Option (D × List O)) : Option (D × List O) := opK2 g d o
def chK3 (g : Op2) (f : E) (d : D) (δ : Sl) (S : List O) (o : Option D) : Option (D × List O) := match o with | some (.bl true) => opK2 g d (f δ S) | some (.bl false) => some (.bl false, S) | _ => none
def chK2 (g1 g2 : Op2) (f3 : E) (d1 : D) (δ : Sl) (o : Option (D × List O)) : Option (D × List O) := match o with | some (d2, S) => chK3 g2 f3 d2 δ S (g1 d1 d2 S) | none => none
def chK1 (g1 g2 : Op2) (f2 f3 : E) (δ : Sl) (o : Option (D × List O)) : Option (D × List O) := match o with | some (d1, S) => chK2 g1 g2 f3 d1 δ (f2 δ S) | none => none
theorem chK1_1 {g1 g2 : Op2} {f2 f3 : E} {δ : Sl} {d : D} {S : List O} : chK1 g1 g2 f2 f3 δ (some (d, S)) = chK2 g1 g2 f3 d δ (f2 δ S) := id rfl
theorem chK2_1 {g1 g2 : Op2} {f3 : E} {δ : Sl} {d1 d2 : D} {S : List O} : chK2 g1 g2 f3 d1 δ (some (d2, S)) = chK3 g2 f3 d2 δ S (g1 d1 d2 S) := id rfl
theorem chK3_1 {g : Op2} {f : E} {δ : Sl} {d : D} {S : List O} : chK3 g f d δ S (some (.bl true)) = opK2 g d (f δ S) := id rfl
theorem chK3_2 {g : Op2} {f : E} {δ : Sl} {d : D} {S : List O} : chK3 g f d δ S (some (.bl false)) = some (.bl false, S) := id rfl
theorem eChain_u {g1 g2 : Op2} {f1 f2 f3 : E} {δ : Sl} {S : List O} : eChain g1 g2 f1 f2 f3 δ S = chK1 g1 g2 f2 f3 δ (f1 δ S) := by
  unfold eChain chK1
  cases f1 δ S with
  | none => rfl
  | some p =>
    obtain ⟨d, S1⟩ := p
    show ((f2 δ S1).bind _) = chK2 g1 g2 f3 d δ (f2 δ S1)
    cases f2 δ S1 with
    | none => rfl
    | some q =>
      obtain ⟨e, S2⟩ := q
      show ((g1 d e S2).bind _) = chK3 g2 f3 e δ S2 (g1 d e S2)
      cases g1 d e S2 with
      | none => rfl
      | some r =>
        cases r with
        | bl b =>
          cases b with
          | false => rfl
          | true =>
            show ((f3 δ S2).bind _) = opK2 g2 e (f3 δ S2)
            cases f3 δ S2 with
            | none => rfl
            | some t =>
              obtain ⟨z, S3⟩ := t
              show ((g2 e z S3).bind _) = opK3 S3 (g2 e z S3)
              cases g2 e z S3 <;> rfl
        | _ => rfl
def tandK (g : T) (δ : Sl) (o : Option (Bool × List O)) : Option (Bool × List O) := match o with | some (true, S) => g δ S | some (false, S) => some (false, S) | none => none
def torK (g : T) (δ : Sl) (o : Option (Bool × List O)) : Option (Bool × List O) := match o with | some (true, S) => some (true, S) | some (false, S) => g δ S | none => none
def tnotK (o : Option (Bool × List O)) : Option (Bool × List O) := match o with | some (b, S) => some (!b, S) | none => none
theorem tandK_1 {g : T} {δ : Sl} {S : List O} : tandK g δ (some (true, S)) = g δ S := id rfl
theorem tandK_2 {g : T} {δ : Sl} {S : List O} : tandK g δ (some (false, S)) = some (false, S) := id rfl
theorem torK_1 {g : T} {δ : Sl} {S : List O} : torK g δ (some (true, S)) = some (true, S) := id rfl
theorem torK_2 {g : T} {δ : Sl} {S : List O} : torK g δ (some (false, S)) = g δ S := id rfl
theorem tnotK_1 {b : Bool} {S : List O} : tnotK (some (b, S)) = some (!b, S) := id rfl
theorem tTrue_u {δ : Sl} {S : List O} : tTrue δ S = some (true, S) := id rfl
theorem tfAnd_u {f g : T} {δ : Sl} {S : List O} : tfAnd f g δ S = tandK g δ (f δ S) := by unfold tfAnd; cases f δ S with | none => rfl | some p => (obtain ⟨b, S1⟩ := p; cases b <;> rfl)
theorem tfOr_u {f g : T} {δ : Sl} {S : List O} : tfOr f g δ S = torK g δ (f δ S) := by unfold tfOr; cases f δ S with | none => rfl | some p => (obtain ⟨b, S1⟩ := p; cases b <;> rfl)
theorem tfNot_u {f : T} {δ : Sl} {S : List O} : tfNot f δ S = tnotK (f δ S) := by unfold tfNot; cases f δ S <;> rfl
def lcK1 (gd : G) (c : T) (e : E) (δ : Sl) (o : Option (List D × List O)) : Option (List D × List O) := match o with | some (ds, S) => if ds.length ≤ 10000000 then lcD gd c e δ ds S else none | none => none
def lcK5 (d : D) (o : Option (List D × List O)) : Option (List D × List O) := match o with | some (ds, S) => some (d :: ds, S) | none => none
def lcK4 (gd : G) (c : T) (e : E) (δ : Sl) (ds : List D) (o : Option (D × List O)) : Option (List D × List O) := match o with | some (d, S) => lcK5 d (lcD gd c e δ ds S) | none => none
def lcK3 (gd : G) (c : T) (e : E) (δ δ1 : Sl) (ds : List D) (o : Option (Bool × List O)) : Option (List D × List O) := match o with | some (true, S) => lcK4 gd c e δ ds (e δ1 S) | some (false, S) => lcD gd c e δ ds S | none => none
def lcK2 (gd : G) (c : T) (e : E) (δ : Sl) (ds : List D) (S : List O) (o : Option Sl) : Option (List D × List O) := match o with | some δ1 => lcK3 gd c e δ δ1 ds (c δ1 S) | none => none
theorem lcK1_1 {gd : G} {c : T} {e : E} {δ : Sl} {ds : List D} {S : List O} : lcK1 gd c e δ (some (ds, S)) = if ds.length ≤ 10000000 then lcD gd c e δ ds S else none := id rfl
theorem lcK2_1 {gd : G} {c : T} {e : E} {δ δ1 : Sl} {ds : List D} {S : List O} : lcK2 gd c e δ ds S (some δ1) = lcK3 gd c e δ δ1 ds (c δ1 S) := id rfl
theorem lcK3_1 {gd : G} {c : T} {e : E} {δ δ1 : Sl} {ds : List D} {S : List O} : lcK3 gd c e δ δ1 ds (some (true, S)) = lcK4 gd c e δ ds (e δ1 S) := id rfl
theorem lcK3_2 {gd : G} {c : T} {e : E} {δ δ1 : Sl} {ds : List D} {S : List O} : lcK3 gd c e δ δ1 ds (some (false, S)) = lcD gd c e δ ds S := id rfl
theorem lcK4_1 {gd : G} {c : T} {e : E} {δ : Sl} {d : D} {ds : List D} {S : List O} : lcK4 gd c e δ ds (some (d, S)) = lcK5 d (lcD gd c e δ ds S) := id rfl
theorem lcK5_1 {d : D} {ds : List D} {S : List O} : lcK5 d (some (ds, S)) = some (d :: ds, S) := id rfl
theorem lcD_n {gd : G} {c : T} {e : E} {δ : Sl} {S : List O} : lcD gd c e δ [] S = some ([], S) := id rfl
theorem lcD_c {gd : G} {c : T} {e : E} {δ : Sl} {d : D} {ds : List D} {S : List O} : lcD gd c e δ (d :: ds) S = lcK2 gd c e δ ds S (gd d δ) := by
  show ((gd d δ).bind _) = lcK2 gd c e δ ds S (gd d δ)
  cases gd d δ with
  | none => rfl
  | some δ1 =>
    show ((c δ1 S).bind _) = lcK3 gd c e δ δ1 ds (c δ1 S)
    cases c δ1 S with
    | none => rfl
    | some p =>
      obtain ⟨b, S1⟩ := p
      cases b with
      | false => rfl
      | true =>
        show ((e δ1 S1).bind _) = lcK4 gd c e δ ds (e δ1 S1)
        cases e δ1 S1 with
        | none => rfl
        | some q =>
          obtain ⟨d2, S2⟩ := q
          show ((lcD gd c e δ ds S2).bind _) = lcK5 d2 (lcD gd c e δ ds S2)
          cases lcD gd c e δ ds S2 <;> rfl
theorem aLc_u {it : A} {gd : G} {c : T} {e : E} {vs : List Nat} {δ : Sl} {S : List O} : aLc it gd c e vs δ S = lcK1 gd c e (wipeD δ vs) (it δ S) := by unfold aLc; cases it δ S <;> rfl
theorem wipeD_n {δ : Sl} : wipeD δ [] = δ := id rfl
theorem wipeD_c {δ : Sl} {v : Nat} {vs : List Nat} : wipeD δ (v :: vs) = (wipeD δ vs).set v none := id rfl
theorem gdName_u {i : Nat} {d : D} {δ : Sl} : gdName i d δ = some (δ.set i (some d)) := id rfl
def gsK (gs : Gs) (ds : List D) (o : Option Sl) : Option Sl := match o with | some δ => gs ds δ | none => none
theorem gsK_1 {gs : Gs} {ds : List D} {δ : Sl} : gsK gs ds (some δ) = gs ds δ := id rfl
theorem gsNil_u {δ : Sl} : gsNil [] δ = some δ := id rfl
theorem gdTup_u {n : Nat} {gs : Gs} {ds : List D} {δ : Sl} : gdTup n gs (.tup ds) δ = if ds.length = n then gs ds δ else none := id rfl
theorem gsCons_u {g : G} {gs : Gs} {d : D} {ds : List D} {δ : Sl} : gsCons g gs (d :: ds) δ = gsK gs ds (g d δ) := by show ((g d δ).bind _) = gsK gs ds (g d δ); cases g d δ <;> rfl
def iseqK2 (S : List O) (o : Option (List D)) : Option (List D × List O) := match o with | some ds => some (ds, S) | none => none
def iseqK (o : Option (D × List O)) : Option (List D × List O) := match o with | some (d, S) => iseqK2 S (seqP d) | none => none
def itupK (o : Option (D × List O)) : Option (List D × List O) := match o with | some (.tup ds, S) => some (ds, S) | _ => none
def istrK (o : Option (D × List O)) : Option (List D × List O) := match o with | some (.str z, S) => some (z.cps.toList.map fun c => .str ⟨#[c]⟩, S) | _ => none
def irng1K (o : Option (List D × List O)) : Option (List D × List O) := match o with | some ([.int j], S) => if -(2 ^ 62) ≤ j ∧ j < 2 ^ 62 then some (rangeD 0 j, S) else none | _ => none
def irng2K (o : Option (List D × List O)) : Option (List D × List O) := match o with | some ([.int i, .int j], S) => if -(2 ^ 62) ≤ i ∧ i < 2 ^ 62 ∧ -(2 ^ 62) ≤ j ∧ j < 2 ^ 62 then some (rangeD i j, S) else none | _ => none
theorem iseqK_1 {d : D} {S : List O} : iseqK (some (d, S)) = iseqK2 S (seqP d) := id rfl
theorem iseqK2_1 {ds : List D} {S : List O} : iseqK2 S (some ds) = some (ds, S) := id rfl
theorem itupK_1 {ds : List D} {S : List O} : itupK (some (.tup ds, S)) = some (ds, S) := id rfl
theorem istrK_1 {z : Str} {S : List O} : istrK (some (.str z, S)) = some (z.cps.toList.map fun c => .str ⟨#[c]⟩, S) := id rfl
theorem irng1K_1 {j : Int} {S : List O} : irng1K (some ([.int j], S)) = if -(2 ^ 62) ≤ j ∧ j < 2 ^ 62 then some (rangeD 0 j, S) else none := id rfl
theorem irng2K_1 {i j : Int} {S : List O} : irng2K (some ([.int i, .int j], S)) = if -(2 ^ 62) ≤ i ∧ i < 2 ^ 62 ∧ -(2 ^ 62) ≤ j ∧ j < 2 ^ 62 then some (rangeD i j, S) else none := id rfl
theorem seqP_1 {xs : List D} : seqP (.lst xs) = some xs := id rfl
theorem seqP_2 {ns : List Int} : seqP (.scr ns) = some (ns.map .int) := id rfl
theorem iSeq_u {f : E} {δ : Sl} {S : List O} : iSeq f δ S = iseqK (f δ S) := by unfold iSeq; cases f δ S with | none => rfl | some p => (obtain ⟨d, S1⟩ := p; show ((seqP d).bind _) = iseqK2 S1 (seqP d); cases seqP d <;> rfl)
theorem iTupD_u {f : E} {δ : Sl} {S : List O} : iTupD f δ S = itupK (f δ S) := by unfold iTupD; cases f δ S with | none => rfl | some p => (obtain ⟨d, S1⟩ := p; cases d <;> rfl)
theorem iStrD_u {f : E} {δ : Sl} {S : List O} : iStrD f δ S = istrK (f δ S) := by unfold iStrD; cases f δ S with | none => rfl | some p => (obtain ⟨d, S1⟩ := p; cases d <;> rfl)
theorem iRange1_u {g : A} {δ : Sl} {S : List O} : iRange1 g δ S = irng1K (g δ S) := by unfold iRange1 irng1K; cases g δ S with | none => rfl | some p => (obtain ⟨ds, S1⟩ := p; cases ds with | nil => rfl | cons d ds => (cases ds with | nil => (cases d <;> rfl) | cons e es => (cases d <;> rfl)))
theorem iRange2_u {g : A} {δ : Sl} {S : List O} : iRange2 g δ S = irng2K (g δ S) := by unfold iRange2 irng2K; cases g δ S with | none => rfl | some p => (obtain ⟨ds, S1⟩ := p; match ds with | [] => rfl | [d] => (cases d <;> rfl) | d :: e :: f :: r => (cases d <;> cases e <;> rfl) | [d, e] => (cases d <;> cases e <;> rfl))
def m1K2 (k : D → D → List O → Option (D × List O)) (d : D) (o : Option (D × List O)) : Option (D × List O) := match o with | some (e, S) => k d e S | none => none
def m1K (k : D → D → List O → Option (D × List O)) (f : E) (δ : Sl) (o : Option (D × List O)) : Option (D × List O) := match o with | some (d, S) => if isLst S d = true then m1K2 k d (f δ S) else none | none => none
def m0K (k : D → List O → Option (D × List O)) (o : Option (D × List O)) : Option (D × List O) := match o with | some (d, S) => if isLst S d = true then k d S else none | none => none
def s1K2 (k : Op2) (d : D) (o : Option (D × List O)) : Option (D × List O) := opK2 k d o
def s1K (k : Op2) (f : E) (δ : Sl) (o : Option (D × List O)) : Option (D × List O) := match o with | some (.str x, S) => opK2 k (.str x) (f δ S) | _ => none
theorem m1K_1 {k : D → D → List O → Option (D × List O)} {f : E} {δ : Sl} {d : D} {S : List O} : m1K k f δ (some (d, S)) = if isLst S d = true then m1K2 k d (f δ S) else none := id rfl
theorem m1K2_1 {k : D → D → List O → Option (D × List O)} {d e : D} {S : List O} : m1K2 k d (some (e, S)) = k d e S := id rfl
theorem m0K_1 {k : D → List O → Option (D × List O)} {d : D} {S : List O} : m0K k (some (d, S)) = if isLst S d = true then k d S else none := id rfl
theorem s1K_1 {k : Op2} {f : E} {δ : Sl} {x : Str} {S : List O} : s1K k f δ (some (.str x, S)) = opK2 k (.str x) (f δ S) := id rfl
theorem eMeth1_u {k : D → D → List O → Option (D × List O)} {f g : E} {δ : Sl} {S : List O} : eMeth1 k f g δ S = m1K k g δ (f δ S) := by unfold eMeth1 m1K; cases f δ S with | none => rfl | some p => (obtain ⟨d, S1⟩ := p; show (if isLst S1 d = true then _ else _) = (if isLst S1 d = true then _ else _); split <;> first | rfl | (show ((g δ S1).bind _) = m1K2 k d (g δ S1); cases g δ S1 <;> rfl))
theorem eMeth0_u {k : D → List O → Option (D × List O)} {f : E} {δ : Sl} {S : List O} : eMeth0 k f δ S = m0K k (f δ S) := by unfold eMeth0; cases f δ S <;> rfl
theorem eS1_u {k : Op2} {f g : E} {δ : Sl} {S : List O} : eS1 k f g δ S = s1K k g δ (f δ S) := by unfold eS1; cases f δ S with | none => rfl | some p => (obtain ⟨d, S1⟩ := p; cases d with | str x => (show ((g δ S1).bind _) = opK2 k (.str x) (g δ S1); cases g δ S1 with | none => rfl | some q => (obtain ⟨e, S2⟩ := q; show ((k (.str x) e S2).bind _) = opK3 S2 (k (.str x) e S2); cases k (.str x) e S2 <;> rfl)) | _ => rfl)
def setK (i : Nat) (δ : Sl) (o : Option (D × List O)) : Option Out := match o with | some (d, S) => some (.nx (δ.set i (some d)) S) | none => none
def asgK2 (S : List O) (o : Option Sl) : Option Out := match o with | some δ => some (.nx δ S) | none => none
def asgK (g : G) (δ : Sl) (o : Option (D × List O)) : Option Out := match o with | some (d, S) => asgK2 S (g d δ) | none => none
def retK (o : Option (D × List O)) : Option Out := match o with | some (d, S) => some (.rt d S) | none => none
def expK (δ : Sl) (o : Option (D × List O)) : Option Out := match o with | some (_, S) => some (.nx δ S) | none => none
def seqK (y : B) (o : Option Out) : Option Out := match o with | some (.nx δ S) => y δ S | o => o
def ifK (x y : B) (δ : Sl) (o : Option (Bool × List O)) : Option Out := match o with | some (true, S) => x δ S | some (false, S) => y δ S | none => none
def forK (gd : G) (b : B) (δ : Sl) (o : Option (List D × List O)) : Option Out := match o with | some (ds, S) => forD gd b ds δ S | none => none
def forK3 (gd : G) (b : B) (ds : List D) (o : Option Out) : Option Out := match o with | some (.nx δ S) => forD gd b ds δ S | some (.ct δ S) => forD gd b ds δ S | some (.bk δ S) => some (.nx δ S) | some (.rt d S) => some (.rt d S) | none => none
def forK2 (gd : G) (b : B) (ds : List D) (S : List O) (o : Option Sl) : Option Out := match o with | some δ => forK3 gd b ds (b δ S) | none => none
def fnK (o : Option Out) : Option (D × List O) := match o with | some (.rt d S) => some (d, S) | some (.nx _ S) => some (.non, S) | _ => none
def gcK (n : Nat) (o : Option (D × List O)) : Option (D × List O) := match o with | some p => gcF n p | none => none
def stK2 (δ : Sl) (o : Option (List O)) : Option Out := match o with | some S => some (.nx δ S) | none => none
def stF (d : D) (k : Int) (o : O) : Option O := match o with | .lst xs => (ixN xs.length k).bind fun j => some (.lst (xs.set j d)) | _ => none
def stK1 (d o : D) (δ : Sl) (p : Option (D × List O)) : Option Out := match p with | some (.int k, S) => stK2 δ (setO S o (stF d k)) | _ => none
def stK0 (fi : E) (d : D) (δ : Sl) (p : Option (D × List O)) : Option Out := match p with | some (o, S) => stK1 d o δ (fi δ S) | none => none
def stK (fo fi : E) (δ : Sl) (p : Option (D × List O)) : Option Out := match p with | some (d, S) => stK0 fi d δ (fo δ S) | none => none
theorem setK_1 {i : Nat} {δ : Sl} {d : D} {S : List O} : setK i δ (some (d, S)) = some (.nx (δ.set i (some d)) S) := id rfl
theorem asgK_1 {g : G} {δ : Sl} {d : D} {S : List O} : asgK g δ (some (d, S)) = asgK2 S (g d δ) := id rfl
theorem asgK2_1 {δ : Sl} {S : List O} : asgK2 S (some δ) = some (.nx δ S) := id rfl
theorem retK_1 {d : D} {S : List O} : retK (some (d, S)) = some (.rt d S) := id rfl
theorem expK_1 {δ : Sl} {d : D} {S : List O} : expK δ (some (d, S)) = some (.nx δ S) := id rfl
theorem seqK_1 {y : B} {δ : Sl} {S : List O} : seqK y (some (.nx δ S)) = y δ S := id rfl
theorem seqK_2 {y : B} {d : D} {S : List O} : seqK y (some (.rt d S)) = some (.rt d S) := id rfl
theorem seqK_3 {y : B} {δ : Sl} {S : List O} : seqK y (some (.bk δ S)) = some (.bk δ S) := id rfl
theorem ifK_1 {x y : B} {δ : Sl} {S : List O} : ifK x y δ (some (true, S)) = x δ S := id rfl
theorem ifK_2 {x y : B} {δ : Sl} {S : List O} : ifK x y δ (some (false, S)) = y δ S := id rfl
theorem forK_1 {gd : G} {b : B} {δ : Sl} {ds : List D} {S : List O} : forK gd b δ (some (ds, S)) = forD gd b ds δ S := id rfl
theorem forD_n {gd : G} {b : B} {δ : Sl} {S : List O} : forD gd b [] δ S = some (.nx δ S) := id rfl
theorem forK2_1 {gd : G} {b : B} {ds : List D} {δ : Sl} {S : List O} : forK2 gd b ds S (some δ) = forK3 gd b ds (b δ S) := id rfl
theorem forK3_1 {gd : G} {b : B} {ds : List D} {δ : Sl} {S : List O} : forK3 gd b ds (some (.nx δ S)) = forD gd b ds δ S := id rfl
theorem forK3_2 {gd : G} {b : B} {ds : List D} {δ : Sl} {S : List O} : forK3 gd b ds (some (.bk δ S)) = some (.nx δ S) := id rfl
theorem forK3_3 {gd : G} {b : B} {ds : List D} {d : D} {S : List O} : forK3 gd b ds (some (.rt d S)) = some (.rt d S) := id rfl
theorem fnK_1 {d : D} {S : List O} : fnK (some (.rt d S)) = some (d, S) := id rfl
theorem fnK_2 {δ : Sl} {S : List O} : fnK (some (.nx δ S)) = some (.non, S) := id rfl
theorem gcK_1 {n : Nat} {p : D × List O} : gcK n (some p) = gcF n p := id rfl
theorem sNext_u {δ : Sl} {S : List O} : sNext δ S = some (.nx δ S) := id rfl
theorem sBrk_u {δ : Sl} {S : List O} : sBrk δ S = some (.bk δ S) := id rfl
theorem stK_1 {fo fi : E} {δ : Sl} {d : D} {S : List O} : stK fo fi δ (some (d, S)) = stK0 fi d δ (fo δ S) := id rfl
theorem stK0_1 {fi : E} {δ : Sl} {d o : D} {S : List O} : stK0 fi d δ (some (o, S)) = stK1 d o δ (fi δ S) := id rfl
theorem stK1_1 {δ : Sl} {d o : D} {k : Int} {S : List O} : stK1 d o δ (some (.int k, S)) = stK2 δ (setO S o (stF d k)) := id rfl
theorem stK2_1 {δ : Sl} {S : List O} : stK2 δ (some S) = some (.nx δ S) := id rfl
theorem sSet_u {i : Nat} {f : E} {δ : Sl} {S : List O} : sSet i f δ S = setK i δ (f δ S) := by unfold sSet; cases f δ S <;> rfl
theorem sAsg_u {f : E} {g : G} {δ : Sl} {S : List O} : sAsg f g δ S = asgK g δ (f δ S) := by unfold sAsg; cases f δ S with | none => rfl | some p => (obtain ⟨d, S1⟩ := p; show ((g d δ).bind _) = asgK2 S1 (g d δ); cases g d δ <;> rfl)
theorem sRet_u {f : E} {δ : Sl} {S : List O} : sRet f δ S = retK (f δ S) := by unfold sRet; cases f δ S <;> rfl
theorem sExp_u {f : E} {δ : Sl} {S : List O} : sExp f δ S = expK δ (f δ S) := by unfold sExp; cases f δ S <;> rfl
theorem sSeq_u {x y : B} {δ : Sl} {S : List O} : sSeq x y δ S = seqK y (x δ S) := by unfold sSeq; cases x δ S with | none => rfl | some o => (cases o <;> rfl)
theorem sIf_u {c : T} {x y : B} {δ : Sl} {S : List O} : sIf c x y δ S = ifK x y δ (c δ S) := by unfold sIf; cases c δ S with | none => rfl | some p => (obtain ⟨b, S1⟩ := p; cases b <;> rfl)
theorem sFor_u {it : A} {gd : G} {b : B} {δ : Sl} {S : List O} : sFor it gd b δ S = forK gd b δ (it δ S) := by unfold sFor; cases it δ S <;> rfl
theorem forD_c {gd : G} {b : B} {d : D} {ds : List D} {δ : Sl} {S : List O} : forD gd b (d :: ds) δ S = forK2 gd b ds S (gd d δ) := by show ((gd d δ).bind _) = forK2 gd b ds S (gd d δ); cases gd d δ with | none => rfl | some δ1 => (show ((b δ1 S).bind _) = forK3 gd b ds (b δ1 S); cases b δ1 S with | none => rfl | some o => (cases o <;> rfl))
theorem fnD_u {n : Nat} {b : B} {ds : List D} {S : List O} : fnD n b ds S = fnK (b (ds.map some ++ List.replicate (n - ds.length) none) S) := by unfold fnD fnK; cases b (ds.map some ++ List.replicate (n - ds.length) none) S with | none => rfl | some o => (cases o <;> rfl)
theorem gcFn_u {F : Fn} {ds : List D} {S : List O} : gcFn F ds S = gcK S.length (F ds S) := by unfold gcFn; cases F ds S <;> rfl
theorem sSetIx_u {fe fo fi : E} {δ : Sl} {S : List O} : sSetIx fe fo fi δ S = stK fo fi δ (fe δ S) := by
  unfold sSetIx stK
  cases fe δ S with
  | none => rfl
  | some p =>
    obtain ⟨d, S1⟩ := p
    show ((fo δ S1).bind _) = stK0 fi d δ (fo δ S1)
    cases fo δ S1 with
    | none => rfl
    | some q =>
      obtain ⟨o, S2⟩ := q
      show ((fi δ S2).bind _) = stK1 d o δ (fi δ S2)
      cases fi δ S2 with
      | none => rfl
      | some r =>
        obtain ⟨i, S3⟩ := r
        cases i with
        | int k =>
          show ((setO S3 o (stF d k)).bind _) = stK2 δ (setO S3 o (stF d k))
          cases setO S3 o (stF d k) <;> rfl
        | _ => rfl
theorem dAdd_i {i j : Int} {S : List O} : dAdd (.int i) (.int j) S = some (.int (i + j)) := id rfl
theorem dAdd_s {x y : Str} {S : List O} : dAdd (.str x) (.str y) S = if x.length + y.length ≤ sizeLine then some (.str (x ++ y)) else none := id rfl
theorem dAdd_t {a b : List D} {S : List O} : dAdd (.tup a) (.tup b) S = if a.length + b.length ≤ sizeLine then some (.tup (a ++ b)) else none := id rfl
theorem dAdd_l {a b : List D} {S : List O} : dAdd (.lst a) (.lst b) S = if a.length + b.length ≤ sizeLine then some (.lst (a ++ b)) else none := id rfl
theorem dSub_i {i j : Int} {S : List O} : dInt gSub (.int i) (.int j) S = some (.int (i - j)) := id rfl
theorem dCmp_i {g : Int → Int → Bool} {i j : Int} {S : List O} : dCmp g (.int i) (.int j) S = some (.bl (g i j)) := id rfl
theorem dEq_s {L : Nat} {x y : Str} {S : List O} : dEq L (.str x) (.str y) S = some (.bl (decide (x = y))) := id rfl
theorem dEq_i {L : Nat} {x y : Int} {S : List O} : dEq L (.int x) (.int y) S = some (.bl (decide (x = y))) := id rfl
theorem dEq_b {L : Nat} {x y : Bool} {S : List O} : dEq L (.bl x) (.bl y) S = some (.bl (decide (x = y))) := id rfl
theorem dNe_s {L : Nat} {x y : Str} {S : List O} : dNe L (.str x) (.str y) S = some (.bl (!decide (x = y))) := id rfl
theorem dNe_i {L : Nat} {x y : Int} {S : List O} : dNe L (.int x) (.int y) S = some (.bl (!decide (x = y))) := id rfl
theorem dNe_b {L : Nat} {x y : Bool} {S : List O} : dNe L (.bl x) (.bl y) S = some (.bl (!decide (x = y))) := id rfl
theorem dIx_t {ds : List D} {i : Int} {S : List O} : dIx (.tup ds) (.int i) S = atI ds i := id rfl
theorem dIx_l {ds : List D} {i : Int} {S : List O} : dIx (.lst ds) (.int i) S = atI ds i := id rfl
theorem dIx_c {ns : List Int} {i : Int} {S : List O} : dIx (.scr ns) (.int i) S = atI (ns.map D.int) i := id rfl
theorem dSlice_t {ds : List D} {l h : Option Int} {S : List O} : dSlice (.tup ds) l h S = some (.tup (cutD ds l h)) := id rfl
theorem dSlice_l {ds : List D} {l h : Option Int} {S : List O} : dSlice (.lst ds) l h S = some (.lst (cutD ds l h)) := id rfl
theorem dSlice_c {ns : List Int} {l h : Option Int} {S : List O} : dSlice (.scr ns) l h S = some (.lst (cutD (ns.map D.int) l h)) := id rfl
theorem dSlice_s {z : Str} {l h : Option Int} {S : List O} : dSlice (.str z) l h S = if z.length ≤ sizeLine then some (.str (cutS z l h)) else none := id rfl
theorem bLen_t {ds : List D} {S : List O} : bLen [.tup ds] S = some (.int ds.length) := id rfl
theorem bLen_l {ds : List D} {S : List O} : bLen [.lst ds] S = some (.int ds.length) := id rfl
theorem bLen_s {z : Str} {S : List O} : bLen [.str z] S = if z.length ≤ sizeLine then some (.int z.length) else none := id rfl
theorem bTup_t {ds : List D} {S : List O} : bTup [.tup ds] S = some (.tup ds) := id rfl
theorem bTup_l {ds : List D} {S : List O} : bTup [.lst ds] S = some (.tup ds) := id rfl
theorem blList_t {ds : List D} {S : List O} : blList [.tup ds] S = some ds := id rfl
theorem blList_l {ds : List D} {S : List O} : blList [.lst ds] S = some ds := id rfl
theorem bInt_i {i : Int} {S : List O} : bInt [.int i] S = some (.int i) := id rfl
theorem bInt_t {S : List O} : bInt [.bl true] S = some (.int 1) := id rfl
theorem bInt_f {S : List O} : bInt [.bl false] S = some (.int 0) := id rfl
theorem bMin_i {i j : Int} {S : List O} : bMin [.int i, .int j] S = some (.int (if j < i then j else i)) := id rfl
theorem dIsN_1 {d : D} {S : List O} : dIsN false d .non S = some (.bl (isNon d)) := id rfl
theorem dIsN_2 {d : D} {S : List O} : dIsN true d .non S = some (.bl (!isNon d)) := id rfl
theorem seqL_l {S : List O} {ds : List D} : seqL S (.lst ds) = some ds := id rfl
theorem seqL_c {S : List O} {ns : List Int} : seqL S (.scr ns) = some (ns.map .int) := id rfl
theorem dMod_i {i j : Int} {S : List O} (h : 0 < j) : dInt gMod (.int i) (.int j) S = some (.int (i % j)) := by simp [dInt, gMod, h]
theorem dDiv_i {i j : Int} {S : List O} (h : 0 < j ∧ j < 1073741824) : dInt gDiv (.int i) (.int j) S = some (.int (i / j)) := by simp [dInt, gDiv, h]
theorem dMul_r {i j : Int} {S : List O} (h : -(2 ^ 64) < j ∧ j < 2 ^ 64) : dMul (.int i) (.int j) S = some (.int (i * j)) := by simp only [dMul, gMul]; rw [if_pos (.inr h)]; rfl
theorem dMul_l {i j : Int} {S : List O} (h : -(2 ^ 64) < i ∧ i < 2 ^ 64) : dMul (.int i) (.int j) S = some (.int (i * j)) := by simp only [dMul, gMul]; rw [if_pos (.inl h)]; rfl
theorem bLen_c {ns : List Int} {S : List O} : bLen [.scr ns] S = some (.int ns.length) := by simp [bLen, seqL]
theorem gc_same {n : Nat} {d : D} {S : List O} (h : S.length ≤ n) : gcF n (d, S) = some (d, S) := by unfold gcF; rw [if_pos h]
theorem pow12 {S : List O} : dInt gPow (.int 10) (.int 12) S = some (.int 1000000000000) := by simp [dInt, gPow]
def dicO (o : Option O) : Option (List (Key × D)) := match o with | some (.dic ks) => some ks | _ => none
def keyO (y : D) : Option Key := dK y
def dgK2 (ks : List (Key × D)) (o : Option Key) : Option D := match o with | some k => valD ks k | none => none
def dgK (y : D) (o : Option (List (Key × D))) : Option D := match o with | some ks => dgK2 ks (keyO y) | none => none
def diK2 (neg : Bool) (ks : List (Key × D)) (o : Option Key) : Option D := match o with | some k => some (.bl (if neg then !(valD ks k).isSome else (valD ks k).isSome)) | none => none
def diK (neg : Bool) (y : D) (o : Option (List (Key × D))) : Option D := match o with | some ks => diK2 neg ks (keyO y) | none => none
def ienK (o : Option (D × List O)) : Option (List D × List O) := match o with | some (.tup ds, S) => some (enumD 0 ds, S) | _ => none
def ppK3 (d e : D) (o : Option (List (D × D) × List O)) : Option (List (D × D) × List O) := match o with | some (r, S) => some ((d, e) :: r, S) | none => none
def ppK2 (g : PP) (δ : Sl) (d : D) (o : Option (D × List O)) : Option (List (D × D) × List O) := match o with | some (e, S) => ppK3 d e (g δ S) | none => none
def ppK (f : E) (g : PP) (δ : Sl) (o : Option (D × List O)) : Option (List (D × D) × List O) := match o with | some (d, S) => ppK2 g δ d (f δ S) | none => none
def kdK2 (k : Key) (d : D) (o : Option (List (Key × D))) : Option (List (Key × D)) := match o with | some r => some ((k, d) :: r) | none => none
def kdK (d : D) (r : List (D × D)) (o : Option Key) : Option (List (Key × D)) := match o with | some k => kdK2 k d (keysD r) | none => none
def ddK2 (S : List O) (o : Option (List (Key × D))) : Option (List (Key × D) × List O) := match o with | some ks => some (mergeD [] ks, S) | none => none
def ddK (o : Option (List (D × D) × List O)) : Option (List (Key × D) × List O) := match o with | some (ps, S) => if ps.length ≤ 15 then ddK2 S (keysD ps) else none | none => none
def g2K4 (ks : List (Key × D)) (z : D) (S : List O) (o : Option Key) : Option (D × List O) := match o with | some k => some ((valD ks k).getD z, S) | none => none
def g2K3 (y z : D) (S : List O) (o : Option (List (Key × D))) : Option (D × List O) := match o with | some ks => g2K4 ks z S (keyO y) | none => none
def g2K2 (x y : D) (o : Option (D × List O)) : Option (D × List O) := match o with | some (z, S) => g2K3 y z S (dicS S x) | none => none
def g2K1 (f3 : E) (δ : Sl) (x : D) (o : Option (D × List O)) : Option (D × List O) := match o with | some (y, S) => g2K2 x y (f3 δ S) | none => none
def g2K (f2 f3 : E) (δ : Sl) (o : Option (D × List O)) : Option (D × List O) := match o with | some (x, S) => if isDic S x = true then g2K1 f3 δ x (f2 δ S) else none | none => none
def dpF (k : Key) (d : D) (o : O) : Option O := match o with | .dic ks => if ks.length < 16777216 then some (.dic (putD ks k d)) else none | _ => none
def dpK3 (d o : D) (δ : Sl) (S : List O) (k : Option Key) : Option Out := match k with | some k => stK2 δ (setO S o (dpF k d)) | none => none
def dpK2 (d o : D) (δ : Sl) (p : Option (D × List O)) : Option Out := match p with | some (i, S) => dpK3 d o δ S (keyO i) | none => none
def dpK1 (fi : E) (d : D) (δ : Sl) (p : Option (D × List O)) : Option Out := match p with | some (o, S) => dpK2 d o δ (fi δ S) | none => none
def dpK (fo fi : E) (δ : Sl) (p : Option (D × List O)) : Option Out := match p with | some (d, S) => dpK1 fi d δ (fo δ S) | none => none
def dbK2 (S : List O) (o : Option (List (Key × D))) : Option (List (Key × D) × List O) := match o with | some d => some (d, S) | none => none
def dbK (k : Bd) (o : Option (List D × List O)) : Option (List (Key × D) × List O) := match o with | some (ds, S) => dbK2 S (k ds S) | none => none
theorem dicS_d {S : List O} {ks : List (Key × D)} : dicS S (.dic ks) = some ks := id rfl
theorem dicO_1 {ks : List (Key × D)} : dicO (some (.dic ks)) = some ks := id rfl
theorem keyO_s {x : Str} : keyO (.str x) = some (.inr x) := id rfl
theorem keyO_i {x : Int} : keyO (.int x) = some (.inl x) := id rfl
theorem dgK_1 {y : D} {ks : List (Key × D)} : dgK y (some ks) = dgK2 ks (keyO y) := id rfl
theorem dgK2_1 {ks : List (Key × D)} {k : Key} : dgK2 ks (some k) = valD ks k := id rfl
theorem diK_1 {neg : Bool} {y : D} {ks : List (Key × D)} : diK neg y (some ks) = diK2 neg ks (keyO y) := id rfl
theorem diK2_f {ks : List (Key × D)} {k : Key} : diK2 false ks (some k) = some (.bl (valD ks k).isSome) := id rfl
theorem diK2_t {ks : List (Key × D)} {k : Key} : diK2 true ks (some k) = some (.bl (!(valD ks k).isSome)) := id rfl
theorem valD_n {k : Key} : valD [] k = none := id rfl
theorem mergeD_n {ks : List (Key × D)} : mergeD ks [] = ks := id rfl
theorem mergeD_c {ks r : List (Key × D)} {k : Key} {d : D} : mergeD ks ((k, d) :: r) = mergeD (putD ks k d) r := id rfl
theorem putD_n {k : Key} {d : D} : putD [] k d = [(k, d)] := id rfl
theorem ienK_1 {ds : List D} {S : List O} : ienK (some (.tup ds, S)) = some (enumD 0 ds, S) := id rfl
theorem ppNil_u {δ : Sl} {S : List O} : ppNil δ S = some ([], S) := id rfl
theorem ppK_1 {f : E} {g : PP} {δ : Sl} {d : D} {S : List O} : ppK f g δ (some (d, S)) = ppK2 g δ d (f δ S) := id rfl
theorem ppK2_1 {g : PP} {δ : Sl} {d e : D} {S : List O} : ppK2 g δ d (some (e, S)) = ppK3 d e (g δ S) := id rfl
theorem ppK3_1 {d e : D} {r : List (D × D)} {S : List O} : ppK3 d e (some (r, S)) = some ((d, e) :: r, S) := id rfl
theorem keysD_n : keysD [] = some [] := id rfl
theorem kdK_1 {d : D} {r : List (D × D)} {k : Key} : kdK d r (some k) = kdK2 k d (keysD r) := id rfl
theorem kdK2_1 {k : Key} {d : D} {r : List (Key × D)} : kdK2 k d (some r) = some ((k, d) :: r) := id rfl
theorem ddK_1 {ps : List (D × D)} {S : List O} : ddK (some (ps, S)) = if ps.length ≤ 15 then ddK2 S (keysD ps) else none := id rfl
theorem ddK2_1 {S : List O} {ks : List (Key × D)} : ddK2 S (some ks) = some (mergeD [] ks, S) := id rfl
theorem g2K_1 {f2 f3 : E} {δ : Sl} {x : D} {S : List O} : g2K f2 f3 δ (some (x, S)) = if isDic S x = true then g2K1 f3 δ x (f2 δ S) else none := id rfl
theorem g2K1_1 {f3 : E} {δ : Sl} {x y : D} {S : List O} : g2K1 f3 δ x (some (y, S)) = g2K2 x y (f3 δ S) := id rfl
theorem g2K2_1 {x y z : D} {S : List O} : g2K2 x y (some (z, S)) = g2K3 y z S (dicS S x) := id rfl
theorem g2K3_1 {y z : D} {S : List O} {ks : List (Key × D)} : g2K3 y z S (some ks) = g2K4 ks z S (keyO y) := id rfl
theorem g2K4_1 {ks : List (Key × D)} {z : D} {S : List O} {k : Key} : g2K4 ks z S (some k) = some ((valD ks k).getD z, S) := id rfl
theorem isDic_d {S : List O} {ks : List (Key × D)} : isDic S (.dic ks) = true := id rfl
theorem dpK_1 {fo fi : E} {δ : Sl} {d : D} {S : List O} : dpK fo fi δ (some (d, S)) = dpK1 fi d δ (fo δ S) := id rfl
theorem dpK1_1 {fi : E} {d o : D} {δ : Sl} {S : List O} : dpK1 fi d δ (some (o, S)) = dpK2 d o δ (fi δ S) := id rfl
theorem dpK2_1 {d o i : D} {δ : Sl} {S : List O} : dpK2 d o δ (some (i, S)) = dpK3 d o δ S (keyO i) := id rfl
theorem dpK3_1 {d o : D} {δ : Sl} {S : List O} {k : Key} : dpK3 d o δ S (some k) = stK2 δ (setO S o (dpF k d)) := id rfl
theorem dbK_1 {k : Bd} {ds : List D} {S : List O} : dbK k (some (ds, S)) = dbK2 S (k ds S) := id rfl
theorem dbK2_1 {S : List O} {d : List (Key × D)} : dbK2 S (some d) = some (d, S) := id rfl
theorem bdCopy_1 {d : D} {S : List O} : bdCopy [d] S = dicS S d := id rfl
theorem ddNew_u {δ : Sl} {S : List O} : ddNew δ S = some ([], S) := id rfl
theorem dicS_r {S : List O} {n : Nat} : dicS S (.ref n) = dicO S[n]? := by show (match S[n]? with | some (O.dic ks) => some ks | _ => none) = dicO S[n]?; unfold dicO; rfl
theorem dGet_u {x y : D} {S : List O} : dGet x y S = dgK y (dicS S x) := by unfold dGet; cases dicS S x with | none => rfl | some ks => (show ((dK y).bind _) = dgK2 ks (keyO y); show _ = dgK2 ks (dK y); cases dK y <;> rfl)
theorem dInK_u {neg : Bool} {x y : D} {S : List O} : dInK neg y x S = diK neg y (dicS S x) := by unfold dInK; cases dicS S x with | none => rfl | some ks => (show ((dK y).bind _) = diK2 neg ks (keyO y); show _ = diK2 neg ks (dK y); cases dK y <;> rfl)
theorem valD_c {j k : Key} {d : D} {ks : List (Key × D)} : valD ((j, d) :: ks) k = if j = k then some d else valD ks k := by unfold valD; rw [List.find?_cons]; by_cases h : j = k <;> simp [h]
theorem putD_c {j k : Key} {d e : D} {ks : List (Key × D)} : putD ((j, e) :: ks) k d = if j = k then (j, d) :: ks.map (fun kv => if kv.1 = k then (kv.1, d) else kv) else (j, e) :: putD ks k d := by unfold putD; by_cases h : j = k <;> simp only [h, List.any_cons, decide_false, decide_true, Bool.false_or, Bool.true_or, if_false, if_true, List.map_cons, List.cons_append]; split <;> rfl
theorem iEnumD_u {f : E} {δ : Sl} {S : List O} : iEnumD f δ S = ienK (f δ S) := by unfold iEnumD; cases f δ S with | none => rfl | some p => (obtain ⟨d, S1⟩ := p; cases d <;> rfl)
theorem ppCons_u {f1 f2 : E} {g : PP} {δ : Sl} {S : List O} : ppCons f1 f2 g δ S = ppK f2 g δ (f1 δ S) := by unfold ppCons; cases f1 δ S with | none => rfl | some p => (obtain ⟨d, S1⟩ := p; show ((f2 δ S1).bind _) = ppK2 g δ d (f2 δ S1); cases f2 δ S1 with | none => rfl | some q => (obtain ⟨e, S2⟩ := q; show ((g δ S2).bind _) = ppK3 d e (g δ S2); cases g δ S2 <;> rfl))
theorem keysD_c {k d : D} {r : List (D × D)} : keysD ((k, d) :: r) = kdK d r (keyO k) := by show ((dK k).bind _) = kdK d r (dK k); cases dK k with | none => rfl | some k => (show ((keysD r).bind _) = kdK2 k d (keysD r); cases keysD r <;> rfl)
theorem ddDisp_u {g : PP} {δ : Sl} {S : List O} : ddDisp g δ S = ddK (g δ S) := by unfold ddDisp; cases g δ S with | none => rfl | some p => (obtain ⟨ps, S1⟩ := p; show (if ps.length ≤ 15 then _ else _) = (if ps.length ≤ 15 then _ else _); split <;> first | rfl | (show ((keysD ps).bind _) = ddK2 S1 (keysD ps); cases keysD ps <;> rfl))
theorem eGet2_u {f1 f2 f3 : E} {δ : Sl} {S : List O} : eGet2 f1 f2 f3 δ S = g2K f2 f3 δ (f1 δ S) := by
  unfold eGet2
  cases f1 δ S with
  | none => rfl
  | some p =>
    obtain ⟨x, S1⟩ := p
    show (if isDic S1 x = true then _ else _) = (if isDic S1 x = true then _ else _)
    split
    · show ((f2 δ S1).bind _) = g2K1 f3 δ x (f2 δ S1)
      cases f2 δ S1 with
      | none => rfl
      | some q =>
        obtain ⟨y, S2⟩ := q
        show ((f3 δ S2).bind _) = g2K2 x y (f3 δ S2)
        cases f3 δ S2 with
        | none => rfl
        | some r =>
          obtain ⟨z, S3⟩ := r
          show ((dicS S3 x).bind _) = g2K3 y z S3 (dicS S3 x)
          cases dicS S3 x with
          | none => rfl
          | some ks =>
            show ((dK y).bind _) = g2K4 ks z S3 (dK y)
            cases dK y <;> rfl
    · rfl
theorem sDput_u {fe fo fi : E} {δ : Sl} {S : List O} : sDput fe fo fi δ S = dpK fo fi δ (fe δ S) := by
  unfold sDput
  cases fe δ S with
  | none => rfl
  | some p =>
    obtain ⟨d, S1⟩ := p
    show ((fo δ S1).bind _) = dpK1 fi d δ (fo δ S1)
    cases fo δ S1 with
    | none => rfl
    | some q =>
      obtain ⟨o, S2⟩ := q
      show ((fi δ S2).bind _) = dpK2 d o δ (fi δ S2)
      cases fi δ S2 with
      | none => rfl
      | some r =>
        obtain ⟨i, S3⟩ := r
        show ((dK i).bind _) = dpK3 d o δ S3 (dK i)
        cases dK i with
        | none => rfl
        | some k =>
          show ((setO S3 o (dpF k d)).bind _) = stK2 δ (setO S3 o (dpF k d))
          cases setO S3 o (dpF k d) <;> rfl
theorem ddCopy_u {g : A} {δ : Sl} {S : List O} : ddCopy g δ S = dbK bdCopy (g δ S) := by unfold ddCopy ddBi; cases g δ S with | none => rfl | some p => (obtain ⟨ds, S1⟩ := p; show ((bdCopy ds S1).bind _) = dbK2 S1 (bdCopy ds S1); cases bdCopy ds S1 <;> rfl)
def zsK2 (x : Str) (o : Option (D × List O)) : Option (List D × List O) := match o with | some (.tup ds, S) => some (zipSD x.cps.toList ds, S) | _ => none
def zsK (f : E) (δ : Sl) (o : Option (D × List O)) : Option (List D × List O) := match o with | some (.str x, S) => zsK2 x (f δ S) | _ => none
def zlK3 (S : List O) (a b : Option (List D)) : Option (List D × List O) := match a, b with | some xs, some ys => some (zipLD xs ys, S) | _, _ => none
def zlK2 (d : D) (o : Option (D × List O)) : Option (List D × List O) := match o with | some (e, S) => zlK3 S (seqP d) (seqP e) | none => none
def zlK (f : E) (δ : Sl) (o : Option (D × List O)) : Option (List D × List O) := match o with | some (d, S) => zlK2 d (f δ S) | none => none
def bsK2 (o : Option (List Str)) : Option (List D) := match o with | some l => if l.length < 64 then some ((sortS l).map .str) else none | none => none
def bsK (o : Option (List D)) : Option (List D) := match o with | some xs => bsK2 (strL xs) | none => none
def slK9 (x : Str) (o : Option (List Str)) : Option (List Str) := match o with | some l => some (x :: l) | none => none
theorem zsK_1 {f : E} {δ : Sl} {x : Str} {S : List O} : zsK f δ (some (.str x, S)) = zsK2 x (f δ S) := id rfl
theorem zsK2_1 {x : Str} {ds : List D} {S : List O} : zsK2 x (some (.tup ds, S)) = some (zipSD x.cps.toList ds, S) := id rfl
theorem zlK_1 {f : E} {δ : Sl} {d : D} {S : List O} : zlK f δ (some (d, S)) = zlK2 d (f δ S) := id rfl
theorem zlK2_1 {d e : D} {S : List O} : zlK2 d (some (e, S)) = zlK3 S (seqP d) (seqP e) := id rfl
theorem zlK3_1 {xs ys : List D} {S : List O} : zlK3 S (some xs) (some ys) = some (zipLD xs ys, S) := id rfl
theorem seqP_l {xs : List D} : seqP (.lst xs) = some xs := id rfl
theorem zipLD_c {c d : D} {cs ds : List D} : zipLD (c :: cs) (d :: ds) = .tup [c, d] :: zipLD cs ds := id rfl
theorem zipLD_n : zipLD [] [] = [] := id rfl
theorem zipSD_c {c : Nat} {d : D} {cs : List Nat} {ds : List D} : zipSD (c :: cs) (d :: ds) = .tup [.str ⟨#[c]⟩, d] :: zipSD cs ds := id rfl
theorem zipSD_n : zipSD [] [] = [] := id rfl
theorem bsK_1 {xs : List D} : bsK (some xs) = bsK2 (strL xs) := id rfl
theorem bsK2_1 {l : List Str} : bsK2 (some l) = if l.length < 64 then some ((sortS l).map .str) else none := id rfl
theorem strL_n : strL [] = some [] := id rfl
theorem slK9_1 {x : Str} {l : List Str} : slK9 x (some l) = some (x :: l) := id rfl
theorem iZipS_u {f1 f2 : E} {δ : Sl} {S : List O} : iZipS f1 f2 δ S = zsK f2 δ (f1 δ S) := by
  unfold iZipS
  cases f1 δ S with
  | none => rfl
  | some p =>
    obtain ⟨d, S1⟩ := p
    cases d with
    | str x =>
      show ((f2 δ S1).bind _) = zsK2 x (f2 δ S1)
      cases f2 δ S1 with
      | none => rfl
      | some q => obtain ⟨e, S2⟩ := q; cases e <;> rfl
    | _ =>
      show ((f2 δ S1).bind _) = none
      cases f2 δ S1 <;> rfl
theorem iZip_u {f1 f2 : E} {δ : Sl} {S : List O} : iZip f1 f2 δ S = zlK f2 δ (f1 δ S) := by
  unfold iZip
  cases f1 δ S with
  | none => rfl
  | some p =>
    obtain ⟨d, S1⟩ := p
    show ((f2 δ S1).bind _) = zlK2 d (f2 δ S1)
    cases f2 δ S1 with
    | none => rfl
    | some q =>
      obtain ⟨e, S2⟩ := q
      show ((seqP d).bind _) = zlK3 S2 (seqP d) (seqP e)
      cases seqP d with
      | none => cases seqP e <;> rfl
      | some xs => cases seqP e <;> rfl
theorem blSort_1 {d : D} {S : List O} : blSort [d] S = bsK (seqL S d) := by
  show ((seqL S d).bind _) = bsK (seqL S d)
  cases seqL S d with
  | none => rfl
  | some xs =>
    show ((strL xs).bind _) = bsK2 (strL xs)
    cases strL xs <;> rfl
theorem strL_c {x : Str} {r : List D} : strL (.str x :: r) = slK9 x (strL r) := by show ((strL r).bind _) = slK9 x (strL r); cases strL r <;> rfl
def frK (gd : G) (b : B) (δ : Sl) (o : Option (D × List O)) : Option Out := match o with | some (.ref k, S) => forR gd b k big 0 δ S | _ => none
def ibK2 (S : List O) (o : Option (List D)) : Option (List D × List O) := match o with | some ds => some (ds, S) | none => none
def ibK (o : Option (D × List O)) : Option (List D × List O) := match o with | some (d, S) => ibK2 S (seqB d) | none => none
theorem frK_1 {gd : G} {b : B} {δ : Sl} {k : Nat} {S : List O} : frK gd b δ (some (.ref k, S)) = forR gd b k big 0 δ S := id rfl
theorem ibK_1 {d : D} {S : List O} : ibK (some (d, S)) = ibK2 S (seqB d) := id rfl
theorem ibK2_1 {ds : List D} {S : List O} : ibK2 S (some ds) = some (ds, S) := id rfl
theorem seqB_t {xs : List D} : seqB (.tup xs) = some xs := id rfl
theorem seqB_l {xs : List D} : seqB (.lst xs) = some xs := id rfl
theorem sForR_u {f : E} {gd : G} {b : B} {δ : Sl} {S : List O} : sForR f gd b δ S = frK gd b δ (f δ S) := by unfold sForR; cases f δ S with | none => rfl | some p => (obtain ⟨d, S1⟩ := p; cases d <;> rfl)
theorem iBothD_u {f : E} {δ : Sl} {S : List O} : iBothD f δ S = ibK (f δ S) := by unfold iBothD; cases f δ S with | none => rfl | some p => (obtain ⟨d, S1⟩ := p; show ((seqB d).bind _) = ibK2 S1 (seqB d); cases seqB d <;> rfl)
def insO (o : Option O) : Option (List (Str × D)) := match o with | some (.ins fs) => some fs | _ => none
def fldK3 (S : List O) (o : Option D) : Option (D × List O) := match o with | some d => some (d, S) | none => none
def fldK2 (nm : Str) (S : List O) (o : Option (List (Str × D))) : Option (D × List O) := match o with | some fs => fldK3 S (fs.lookup nm) | none => none
def fldK (nm : Str) (o : Option (D × List O)) : Option (D × List O) := match o with | some (d, S) => fldK2 nm S (insS S d) | none => none
def fsF (nm : Str) (d : D) (o : O) : Option O := match o with | .ins fs => if fs.length < 1000 then some (.ins (putFD nm d fs)) else none | _ => none
def fsK2 (nm : Str) (d : D) (δ : Sl) (p : Option (D × List O)) : Option Out := match p with | some (o, S) => stK2 δ (setO S o (fsF nm d)) | none => none
def fsK (nm : Str) (fo : E) (δ : Sl) (p : Option (D × List O)) : Option Out := match p with | some (d, S) => fsK2 nm d δ (fo δ S) | none => none
def meK4 (n : Nat) (F : Fn) (o : D) (p : Option (List D × List O)) : Option (D × List O) := match p with | some (ds, S) => if ds.length + 1 = n then F (o :: ds) S else none | none => none
def meK2 (mt : Str) (n : Nat) (F : Fn) (g : A) (δ : Sl) (o : D) (S : List O) (q : Option (List (Str × D))) : Option (D × List O) := match q with | some fs => if fs.lookup mt = none then meK4 n F o (g δ S) else none | none => none
def meK (mt : Str) (n : Nat) (F : Fn) (g : A) (δ : Sl) (o : Option (D × List O)) : Option (D × List O) := match o with | some (d, S) => meK2 mt n F g δ d S (insS S d) | none => none
def frsK (n : Nat) (o : Option (D × List O)) : Option (D × List O) := match o with | some (.non, S) => some (.ref n, S) | _ => none
theorem insO_1 {fs : List (Str × D)} : insO (some (.ins fs)) = some fs := id rfl
theorem fldK_1 {nm : Str} {d : D} {S : List O} : fldK nm (some (d, S)) = fldK2 nm S (insS S d) := id rfl
theorem fldK2_1 {nm : Str} {S : List O} {fs : List (Str × D)} : fldK2 nm S (some fs) = fldK3 S (fs.lookup nm) := id rfl
theorem fldK3_1 {S : List O} {d : D} : fldK3 S (some d) = some (d, S) := id rfl
theorem fsK_1 {nm : Str} {fo : E} {δ : Sl} {d : D} {S : List O} : fsK nm fo δ (some (d, S)) = fsK2 nm d δ (fo δ S) := id rfl
theorem fsK2_1 {nm : Str} {d o : D} {δ : Sl} {S : List O} : fsK2 nm d δ (some (o, S)) = stK2 δ (setO S o (fsF nm d)) := id rfl
theorem meK_1 {mt : Str} {n : Nat} {F : Fn} {g : A} {δ : Sl} {d : D} {S : List O} : meK mt n F g δ (some (d, S)) = meK2 mt n F g δ d S (insS S d) := id rfl
theorem meK2_1 {mt : Str} {n : Nat} {F : Fn} {g : A} {δ : Sl} {o : D} {S : List O} {fs : List (Str × D)} : meK2 mt n F g δ o S (some fs) = if fs.lookup mt = none then meK4 n F o (g δ S) else none := id rfl
theorem meK4_1 {n : Nat} {F : Fn} {o : D} {ds : List D} {S : List O} : meK4 n F o (some (ds, S)) = if ds.length + 1 = n then F (o :: ds) S else none := id rfl
theorem frsK_1 {n : Nat} {S : List O} : frsK n (some (.non, S)) = some (.ref n, S) := id rfl
theorem dStarts_1 {a b : Str} {S : List O} : dStarts (.str a) (.str b) S = some (.bl (Txt.startswith a b)) := id rfl
theorem dEnds_1 {a b : Str} {S : List O} : dEnds (.str a) (.str b) S = some (.bl (Txt.endswith a b)) := id rfl
theorem bStrI_1 {i : Int} {S : List O} : bStrI [.int i] S = if i.natAbs.log2 < 1920 then some (.str (toString i)) else none := id rfl
theorem insS_r {S : List O} {n : Nat} : insS S (.ref n) = insO (S[n]?) := by unfold insS; simp only; cases S[n]? with | none => rfl | some o => (cases o <;> rfl)
theorem eFld_u {nm : Str} {f : E} {δ : Sl} {S : List O} : eFld nm f δ S = fldK nm (f δ S) := by unfold eFld; cases f δ S with | none => rfl | some p => (obtain ⟨d, S1⟩ := p; show ((insS S1 d).bind _) = fldK2 nm S1 (insS S1 d); cases insS S1 d with | none => rfl | some fs => (show ((fs.lookup nm).bind _) = fldK3 S1 (fs.lookup nm); cases fs.lookup nm <;> rfl))
theorem sFldS_u {nm : Str} {fv fo : E} {δ : Sl} {S : List O} : sFldS nm fv fo δ S = fsK nm fo δ (fv δ S) := by unfold sFldS; cases fv δ S with | none => rfl | some p => (obtain ⟨d, S1⟩ := p; show ((fo δ S1).bind _) = fsK2 nm d δ (fo δ S1); cases fo δ S1 with | none => rfl | some q => (obtain ⟨o, S2⟩ := q; show ((setO S2 o (fsF nm d)).bind _) = stK2 δ (setO S2 o (fsF nm d)); cases setO S2 o (fsF nm d) <;> rfl))
theorem eMeth_u {mt : Str} {n : Nat} {F : Fn} {fo : E} {g : A} {δ : Sl} {S : List O} : eMeth mt n F fo g δ S = meK mt n F g δ (fo δ S) := by unfold eMeth; cases fo δ S with | none => rfl | some p => (obtain ⟨d, S1⟩ := p; show ((insS S1 d).bind _) = meK2 mt n F g δ d S1 (insS S1 d); cases insS S1 d with | none => rfl | some fs => (show (if fs.lookup mt = none then _ else _) = (if fs.lookup mt = none then _ else _); split <;> first | rfl | (show ((g δ S1).bind _) = meK4 n F d (g δ S1); cases g δ S1 <;> rfl)))
theorem eFresh_u {F : Fn} {δ : Sl} {S : List O} : eFresh F δ S = frsK S.length (F [.ref S.length] (S ++ [.ins []])) := by unfold eFresh; cases F [.ref S.length] (S ++ [.ins []]) with | none => rfl | some p => (obtain ⟨d, S1⟩ := p; cases d <;> rfl)
end Cb
namespace Cb
open PySem PySem.Spec PyProof.Rows L2
def ev := And.intro @varK_1 <| And.intro @eVar_u <| And.intro @eC_u <| And.intro @aNil_u <| And.intro @acK1_1 <| And.intro @acK2_1 <| And.intro @aCons_u <| And.intro @tupK_1 <| And.intro @eTup_u <| And.intro @ldK_1 <| And.intro @lDisp_u <| And.intro @eLK_1 <| And.intro @eLMK_1 <| And.intro @eL_u <| And.intro @eLM_u <| And.intro @eDiK_1 <| And.intro @eDMK_1 <| And.intro @eDi_u <| And.intro @eDM_u <| And.intro @opK1_1 <| And.intro @opK2_1 <| And.intro @opK3_1 <| And.intro @eOp_u <| And.intro @negK_1 <| And.intro @eNeg_u <| And.intro @slK1_1 <| And.intro @slK2_1 <| And.intro @slK3_1 <| And.intro @slK4_1 <| And.intro @ptSK_1 <| And.intro @ptN_u <| And.intro @ptS_u <| And.intro @eSlice_u <| And.intro @callK_1 <| And.intro @eCall_u <| And.intro @biK_1 <| And.intro @blK_1 <| And.intro @blK2_1 <| And.intro @eBi_u <| And.intro @lBi_u <| And.intro @isiK_1 <| And.intro @isiK2_1 <| And.intro @eIsi_u <| And.intro @revK_1 <| And.intro @revK2_1 <| And.intro @lRev_u <| And.intro @andEK_1 <| And.intro @andEK_2 <| And.intro @orEK_1 <| And.intro @orEK_2 <| And.intro @notEK_1 <| And.intro @orSK_1 <| And.intro @ifEK_1 <| And.intro @ifEK_2 <| And.intro @tofK_1 <| And.intro @eAnd_u <| And.intro @eOr_u <| And.intro @eNot_u <| And.intro @eOrS_u <| And.intro @eIf_u <| And.intro @tOf_u <| And.intro @chK1_1 <| And.intro @chK2_1 <| And.intro @chK3_1 <| And.intro @chK3_2 <| And.intro @eChain_u <| And.intro @tandK_1 <| And.intro @tandK_2 <| And.intro @torK_1 <| And.intro @torK_2 <| And.intro @tnotK_1 <| And.intro @tTrue_u <| And.intro @tfAnd_u <| And.intro @tfOr_u <| And.intro @tfNot_u <| And.intro @lcK1_1 <| And.intro @lcK2_1 <| And.intro @lcK3_1 <| And.intro @lcK3_2 <| And.intro @lcK4_1 <| And.intro @lcK5_1 <| And.intro @lcD_n <| And.intro @lcD_c <| And.intro @aLc_u <| And.intro @wipeD_n <| And.intro @wipeD_c <| And.intro @gdName_u <| And.intro @gsK_1 <| And.intro @gsNil_u <| And.intro @gdTup_u <| And.intro @gsCons_u <| And.intro @iseqK_1 <| And.intro @iseqK2_1 <| And.intro @itupK_1 <| And.intro @istrK_1 <| And.intro @irng1K_1 <| And.intro @irng2K_1 <| And.intro @seqP_1 <| And.intro @seqP_2 <| And.intro @iSeq_u <| And.intro @iTupD_u <| And.intro @iStrD_u <| And.intro @iRange1_u <| And.intro @iRange2_u <| And.intro @m1K_1 <| And.intro @m1K2_1 <| And.intro @m0K_1 <| And.intro @s1K_1 <| And.intro @eMeth1_u <| And.intro @eMeth0_u <| And.intro @eS1_u <| And.intro @setK_1 <| And.intro @asgK_1 <| And.intro @asgK2_1 <| And.intro @retK_1 <| And.intro @expK_1 <| And.intro @seqK_1 <| And.intro @seqK_2 <| And.intro @seqK_3 <| And.intro @ifK_1 <| And.intro @ifK_2 <| And.intro @forK_1 <| And.intro @forD_n <| And.intro @forK2_1 <| And.intro @forK3_1 <| And.intro @forK3_2 <| And.intro @forK3_3 <| And.intro @fnK_1 <| And.intro @fnK_2 <| And.intro @gcK_1 <| And.intro @sNext_u <| And.intro @sBrk_u <| And.intro @stK_1 <| And.intro @stK0_1 <| And.intro @stK1_1 <| And.intro @stK2_1 <| And.intro @sSet_u <| And.intro @sAsg_u <| And.intro @sRet_u <| And.intro @sExp_u <| And.intro @sSeq_u <| And.intro @sIf_u <| And.intro @sFor_u <| And.intro @forD_c <| And.intro @fnD_u <| And.intro @gcFn_u <| And.intro @sSetIx_u <| And.intro @dAdd_i <| And.intro @dAdd_s <| And.intro @dAdd_t <| And.intro @dAdd_l <| And.intro @dSub_i <| And.intro @dCmp_i <| And.intro @dEq_s <| And.intro @dEq_i <| And.intro @dEq_b <| And.intro @dNe_s <| And.intro @dNe_i <| And.intro @dNe_b <| And.intro @dIx_t <| And.intro @dIx_l <| And.intro @dIx_c <| And.intro @dSlice_t <| And.intro @dSlice_l <| And.intro @dSlice_c <| And.intro @dSlice_s <| And.intro @bLen_t <| And.intro @bLen_l <| And.intro @bLen_s <| And.intro @bTup_t <| And.intro @bTup_l <| And.intro @blList_t <| And.intro @blList_l <| And.intro @bInt_i <| And.intro @bInt_t <| And.intro @bInt_f <| And.intro @bMin_i <| And.intro @dIsN_1 <| And.intro @dIsN_2 <| And.intro @seqL_l <| And.intro @seqL_c <| And.intro @dMod_i <| And.intro @dDiv_i <| And.intro @dMul_r <| And.intro @dMul_l <| And.intro @bLen_c <| And.intro @gc_same <| And.intro @pow12 <| And.intro @dicS_d <| And.intro @dicO_1 <| And.intro @keyO_s <| And.intro @keyO_i <| And.intro @dgK_1 <| And.intro @dgK2_1 <| And.intro @diK_1 <| And.intro @diK2_f <| And.intro @diK2_t <| And.intro @valD_n <| And.intro @mergeD_n <| And.intro @mergeD_c <| And.intro @putD_n <| And.intro @ienK_1 <| And.intro @ppNil_u <| And.intro @ppK_1 <| And.intro @ppK2_1 <| And.intro @ppK3_1 <| And.intro @keysD_n <| And.intro @kdK_1 <| And.intro @kdK2_1 <| And.intro @ddK_1 <| And.intro @ddK2_1 <| And.intro @g2K_1 <| And.intro @g2K1_1 <| And.intro @g2K2_1 <| And.intro @g2K3_1 <| And.intro @g2K4_1 <| And.intro @isDic_d <| And.intro @dpK_1 <| And.intro @dpK1_1 <| And.intro @dpK2_1 <| And.intro @dpK3_1 <| And.intro @dbK_1 <| And.intro @dbK2_1 <| And.intro @bdCopy_1 <| And.intro @ddNew_u <| And.intro @dicS_r <| And.intro @dGet_u <| And.intro @dInK_u <| And.intro @valD_c <| And.intro @putD_c <| And.intro @iEnumD_u <| And.intro @ppCons_u <| And.intro @keysD_c <| And.intro @ddDisp_u <| And.intro @eGet2_u <| And.intro @sDput_u <| And.intro @ddCopy_u <| And.intro @zsK_1 <| And.intro @zsK2_1 <| And.intro @zlK_1 <| And.intro @zlK2_1 <| And.intro @zlK3_1 <| And.intro @seqP_l <| And.intro @zipLD_c <| And.intro @zipLD_n <| And.intro @zipSD_c <| And.intro @zipSD_n <| And.intro @bsK_1 <| And.intro @bsK2_1 <| And.intro @strL_n <| And.intro @slK9_1 <| And.intro @iZipS_u <| And.intro @iZip_u <| And.intro @blSort_1 <| And.intro @strL_c <| And.intro @frK_1 <| And.intro @ibK_1 <| And.intro @ibK2_1 <| And.intro @seqB_t <| And.intro @seqB_l <| And.intro @sForR_u <| And.intro @iBothD_u <| And.intro @insO_1 <| And.intro @fldK_1 <| And.intro @fldK2_1 <| And.intro @fldK3_1 <| And.intro @fsK_1 <| And.intro @fsK2_1 <| And.intro @meK_1 <| And.intro @meK2_1 <| And.intro @meK4_1 <| And.intro @frsK_1 <| And.intro @dStarts_1 <| And.intro @dEnds_1 <| And.intro @bStrI_1 <| And.intro @insS_r <| And.intro @eFld_u <| And.intro @sFldS_u <| And.intro @eMeth_u <| @eFresh_u
end Cb
namespace Cb
open PySem PySem.Spec PyProof.Rows L2
/-! ## lemmas about data and texts -/
theorem atI_in {α : Type} {xs : List α} {i : Int} (h0 : 0 ≤ i) (h1 : i < xs.length) : ∃ x, atI xs i = some x ∧ x ∈ xs := by
  obtain ⟨j, hj⟩ : ∃ j : Nat, i = (j : Int) := ⟨i.toNat, by omega⟩
  subst hj
  have h : j < xs.length := by omega
  exact ⟨xs[j], atI_nat (List.getElem?_eq_getElem h), List.getElem_mem h⟩
theorem atI_map {α β : Type} (f : α → β) (xs : List α) (i : Int) : atI (xs.map f) i = (atI xs i).map f := by
  unfold atI
  rw [List.length_map]
  cases ixN xs.length i with
  | none => rfl
  | some j => show (xs.map f)[j]? = (xs[j]?).map f; rw [List.getElem?_map]
theorem rangeD_len (lo hi : Int) : (rangeD lo hi).length = (hi - lo).toNat := by simp [rangeD]
/-- a comprehension whose turns are known -/
theorem lcD_map {gd : G} {c : T} {e : E} {δ : Sl} (f : D → D) : ∀ {ds : List D} {S : List O}, (∀ d, d ∈ ds → ∃ δ1, gd d δ = some δ1 ∧ c δ1 S = some (true, S) ∧ e δ1 S = some (f d, S)) → lcD gd c e δ ds S = some (ds.map f, S)
  | [], _, _ => rfl
  | d :: ds, S, h => by
    obtain ⟨δ1, h1, h2, h3⟩ := h d List.mem_cons_self
    rw [lcD_c, h1, lcK2_1, h2, lcK3_1, h3, lcK4_1, lcD_map f (fun d hd => h d (List.mem_cons_of_mem _ hd)), lcK5_1]
    rfl
mutual
theorem okD_pc (n : Nat) : ∀ p : Pc, okD n p.d = true
  | .num _ => by simp [Pc.d, okD, okDs]
  | .name _ => by simp [Pc.d, okD, okDs]
  | .fn _ _ b => by simp [Pc.d, okD, okDs, okD_pc n b]
  | .call _ f g => by simp [Pc.d, okD, okDs, okD_pc n f, okD_pc n g]
  | .plus _ f g => by simp [Pc.d, okD, okDs, okD_pc n f, okD_pc n g]
  | .pick _ c f g => by simp [Pc.d, okD, okDs, okD_pc n c, okD_pc n f, okD_pc n g]
  | .rnd b => by simp [Pc.d, okD, okDs, okD_pc n b]
  | .take _ _ b => by simp [Pc.d, okD, okDs, okD_pc n b]
  | .shut _ _ b => by simp [Pc.d, okD, okDs, okD_pc n b]
  | .kept _ fs => by simp [Pc.d, okD, okDs, okD_frs n fs]
theorem okD_fr (n : Nat) : ∀ f : Fr, okD n f.d = true
  | .caller _ p => by simp [Fr.d, okD, okDs, okD_pc n p]
  | .given _ p => by simp [Fr.d, okD, okDs, okD_pc n p]
  | .adder _ p => by simp [Fr.d, okD, okDs, okD_pc n p]
  | .added _ p => by simp [Fr.d, okD, okDs, okD_pc n p]
  | .picker _ p q => by simp [Fr.d, okD, okDs, okD_pc n p, okD_pc n q]
  | .rnd => by simp [Fr.d, okD, okDs]
theorem okD_frs (n : Nat) : ∀ fs : List Fr, okDs n (Fr.ds fs) = true
  | [] => by simp [Fr.ds, okDs]
  | f :: fs => by simp [Fr.ds, okDs, okD_fr n f, okD_frs n fs]
end
/-- the store: no number without an object -/
def okS (S : List O) : Prop := S.all (okO S.length) = true
theorem okS_set {S : List O} (h : okS S) (j : Nat) (s : Int) : okS (S.set j (.lst [.int s])) := by
  unfold okS at h ⊢
  rw [List.length_set]
  rw [List.all_eq_true] at h ⊢
  intro o ho
  rcases List.mem_or_eq_of_mem_set ho with q | q
  · exact h o q
  · subst q; simp [okO, okDs, okD]
/-- a def's own object is forgotten -/
theorem gc_new {S : List O} {d : D} {o : O} (h : okS S) (hd : okD S.length d = true) (hr : ∀ j, d ≠ .ref j) : gcF S.length (d, S ++ [o]) = some (d, S) := by
  unfold gcF
  rw [if_neg (by simp)]
  have e : (S ++ [o]).take S.length = S := by simp
  simp only [e]
  rw [if_pos (show S.all (okO S.length) = true from h)]
  cases d with
  | ref j => exact absurd rfl (hr j)
  | _ => simp only [hd]; rfl

/-! ### names -/
def nmOk (x : Str) : Prop := 1 ≤ x.length ∧ x.length ≤ 8 ∧ ∀ c ∈ x.cps.toList, 97 ≤ c ∧ c ≤ 122
theorem nm_strOk {x : Str} (h : nmOk x) : PySem.PyData.strOk x = true := by
  unfold PySem.PyData.strOk
  rw [Array.all_eq_true']
  intro c hc
  have := h.2.2 c (by simpa using hc)
  simp; omega
theorem letters_eq : (("abcdefghijklmnopqrstuvwxyz" : Str)).cps.toList = (List.range 26).map (· + 97) := by decide +kernel
theorem letters_len : (("abcdefghijklmnopqrstuvwxyz" : Str)).length = 26 := by decide +kernel
theorem letter_at (S : List O) {i : Int} (h0 : 0 ≤ i) (h1 : i < 26) : ∃ c : Nat, dIx (.str "abcdefghijklmnopqrstuvwxyz") (.int i) S = some (.str ⟨#[c]⟩) ∧ 97 ≤ c ∧ c ≤ 122 := by
  obtain ⟨c, h2, h3⟩ := atI_in (xs := (("abcdefghijklmnopqrstuvwxyz" : Str)).cps.toList) h0 (by rw [letters_eq]; simpa using h1)
  refine ⟨c, ?_, ?_⟩
  · unfold dIx
    dsimp only
    rw [letters_len, sizeLine_eq, if_pos (by decide), h2]
    rfl
  · rw [letters_eq] at h3
    obtain ⟨a, h4, h5⟩ := List.mem_map.mp h3
    have := List.mem_range.mp h4
    omega
theorem str_len (x : Str) : x.length = x.cps.toList.length := by show x.cps.size = _; simp
theorem app_cps (x y : Str) : (x ++ y).cps.toList = x.cps.toList ++ y.cps.toList := by
  show (x.cps ++ y.cps).toList = _
  simp
theorem cutS_cps (z : Str) (lo hi : Option Int) : (cutS z lo hi).cps.toList = cutD z.cps.toList lo hi := by
  unfold cutS cutD
  rw [str_len]
theorem join_one : ∀ cs : List Nat, (Str.join "" (cs.map fun c => (⟨#[c]⟩ : Str))).cps.toList = cs
  | [] => rfl
  | [c] => rfl
  | c :: d :: r => by
    show ((⟨#[c]⟩ : Str) ++ "" ++ Str.join "" ((d :: r).map fun c => (⟨#[c]⟩ : Str))).cps.toList = _
    rw [app_cps, app_cps, join_one (d :: r)]
    rfl
theorem join_cps (cs : List Nat) : (Txt.join "" (cs.map fun c => (⟨#[c]⟩ : Str))).cps.toList = cs := by rw [TL.join_eq, join_one]
theorem strsD_map (xs : List Str) : strsD (xs.map D.str) = some xs := by
  induction xs with
  | nil => rfl
  | cons x xs ih => show ((strsD (xs.map D.str)).bind _) = _; rw [ih]; rfl
theorem ones_sum (cs : List Nat) : (((cs.map fun c => (⟨#[c]⟩ : Str)).map (·.length)).sum) = cs.length := by
  induction cs with
  | nil => rfl
  | cons c cs ih => simp only [List.map_cons, List.sum_cons, ih, List.length_cons]; show 1 + _ = _; omega
/-- the signs of letters, by a list of codes -/
theorem dJoin_ones (S : List O) (cs : List Nat) (h : cs.length ≤ 1000) : dJoin (.str "") (.lst (cs.map fun c => D.str ⟨#[c]⟩)) S = some (.str (Txt.join "" (cs.map fun c => (⟨#[c]⟩ : Str)))) := by
  unfold dJoin
  have e : (cs.map fun c => D.str ⟨#[c]⟩) = (cs.map fun c => (⟨#[c]⟩ : Str)).map D.str := by simp
  simp only [seqA, seqL, Option.bind_some, e, strsD_map]
  rw [if_pos]
  rw [ones_sum]
  have : ("" : Str).length = 0 := by decide +kernel
  rw [this]
  omega
end Cb
namespace Cb
open PySem PySem.Spec PyProof.Rows L2
/-! ## one step, plain -/
def Fr.w : Fr → Pc → Pc
  | .caller a g, p => .call a p g
  | .given a f, p => .call a f p
  | .adder a g, p => .plus a p g
  | .added a f, p => .plus a f p
  | .picker a f g, p => .pick a p f g
  | .rnd, p => .rnd p
/-- frames, the innermost first -/
def plug : List Fr → Pc → Pc
  | [], p => p
  | f :: fs, p => plug fs (f.w p)
def inn : Pc → Option (Fr × Pc)
  | .rnd b => if b.isV = true then none else some (.rnd, b)
  | .pick a c f g => if c.isV = true then none else some (.picker a f g, c)
  | .call a f g => if f.isV = true then (if g.isV = true then none else some (.given a f, g)) else some (.caller a g, f)
  | .plus a f g => if f.isV = true then (if g.isV = true then none else some (.added a f, g)) else some (.adder a g, f)
  | _ => none
/-- the frames about what is next, the outermost first -/
def frs : Pc → List Fr
  | .rnd b => if b.isV = true then [] else .rnd :: frs b
  | .pick a c f g => if c.isV = true then [] else .picker a f g :: frs c
  | .call a f g => if f.isV = true then (if g.isV = true then [] else .given a f :: frs g) else .caller a g :: frs f
  | .plus a f g => if f.isV = true then (if g.isV = true then [] else .added a f :: frs g) else .adder a g :: frs f
  | _ => []
def hd : Pc → Pc
  | .rnd b => if b.isV = true then .rnd b else hd b
  | .pick a c f g => if c.isV = true then .pick a c f g else hd c
  | .call a f g => if f.isV = true then (if g.isV = true then .call a f g else hd g) else hd f
  | .plus a f g => if f.isV = true then (if g.isV = true then .plus a f g else hd g) else hd f
  | p => p
def rix : List Fr → Option Nat
  | [] => none
  | .rnd :: _ => some 0
  | _ :: fs => (rix fs).map (· + 1)
def becomes : Pc → Option Pc
  | .fn a x b => some (.shut a x b)
  | .rnd b => some b
  | .call _ (.shut _ x b) v => some (put x v b)
  | .call _ (.kept _ fs) v => some (.rnd (plug fs v))
  | .plus _ (.num m) (.num n) => some (.num (m + n))
  | .pick _ (.num n) f g => some (if n = 0 then f else g)
  | _ => none
def mk : Pc → Int
  | .fn a _ _ => a
  | .call a _ _ => a
  | .plus a _ _ => a
  | .pick a _ _ _ => a
  | .take a _ _ => a
  | _ => 0
inductive Stp where
  | val | stuck (a : Int) | step (p : Pc)
def stepH (fs : List Fr) (h : Pc) : Stp := match h with
  | .take a x b => match rix fs with
    | none => .stuck a
    | some n => .step (plug (fs.drop n) (put x (.kept a (fs.take n)) b))
  | h => match becomes h with
    | none => .stuck (mk h)
    | some q => .step (plug fs q)
def step (p : Pc) : Stp := if p.isV = true then .val else stepH (frs p).reverse (hd p)
def Stp.d (p : Pc) : Stp → D
  | .val => .tup [.str "value", p.d]
  | .stuck a => .tup [.str "stuck", .int a]
  | .step q => .tup [.str "step", q.d]

theorem inn_none {p : Pc} (h : inn p = none) : frs p = [] ∧ hd p = p := by
  cases p <;> simp only [inn, frs, hd] at h ⊢ <;> (try split at h) <;> (try split at h) <;> simp_all
theorem inn_some {p : Pc} {f : Fr} {q : Pc} (h : inn p = some (f, q)) : frs p = f :: frs q ∧ hd p = hd q ∧ p = f.w q ∧ q.isV = false ∧ p.isV = false := by
  cases p <;> simp only [inn, frs, hd] at h ⊢ <;> (try split at h) <;> (try split at h) <;> simp_all [Fr.w, Pc.isV]
  all_goals (obtain ⟨h1, h2⟩ := h; subst h1; subst h2; simp_all)
theorem plug_app : ∀ (fs gs : List Fr) (p : Pc), plug (fs ++ gs) p = plug gs (plug fs p)
  | [], _, _ => rfl
  | f :: fs, gs, p => by show plug (fs ++ gs) (f.w p) = plug gs (plug fs (f.w p)); exact plug_app fs gs _
theorem frs_ind {P : Pc → Prop} (h0 : ∀ p, inn p = none → P p) (h1 : ∀ p f q, inn p = some (f, q) → P q → P p) (p : Pc) : P p := by
  have : ∀ n (p : Pc), (frs p).length ≤ n → P p := by
    intro n
    induction n with
    | zero =>
      intro p hl
      cases e : inn p with
      | none => exact h0 p e
      | some r =>
        obtain ⟨f, q⟩ := r
        have := (inn_some e).1
        rw [this] at hl
        simp at hl
    | succ n ih =>
      intro p hl
      cases e : inn p with
      | none => exact h0 p e
      | some r =>
        obtain ⟨f, q⟩ := r
        have h2 := (inn_some e).1
        rw [h2] at hl
        exact h1 p f q e (ih q (by simpa using hl))
  exact this _ p (Nat.le_refl _)
theorem plug_frs (p : Pc) : plug (frs p).reverse (hd p) = p := by
  induction p using frs_ind with
  | h0 p h => rw [(inn_none h).1, (inn_none h).2]; rfl
  | h1 p f q h ih =>
    obtain ⟨e1, e2, e3, _⟩ := inn_some h
    rw [e1, e2, List.reverse_cons, plug_app, ih, e3]
    rfl
theorem hd_inn (p : Pc) : inn (hd p) = none := by
  induction p using frs_ind with
  | h0 p h => rw [(inn_none h).2]; exact h
  | h1 p f q h ih => rw [(inn_some h).2.1]; exact ih
theorem hd_isV {p : Pc} (h : p.isV = false) : (hd p).isV = false := by
  induction p using frs_ind with
  | h0 p h' => rw [(inn_none h').2]; exact h
  | h1 p f q h' ih => rw [(inn_some h').2.1]; exact ih (inn_some h').2.2.2.1
theorem frs_cd (p : Pc) : (frs p).length + 1 ≤ cd p := by
  induction p using frs_ind with
  | h0 p h => rw [(inn_none h).1]; exact cd_pos' p
  | h1 p f q h ih =>
    obtain ⟨e1, e2, e3, _⟩ := inn_some h
    rw [e1, e3, List.length_cons]
    have : cd q + 1 ≤ cd (f.w q) := by cases f <;> simp only [Fr.w, cd] <;> omega
    omega
where cd_pos' : ∀ p : Pc, 1 ≤ cd p := by intro p; cases p <;> simp [cd]
/-- where the innermost round stands -/
theorem rix_none {l : List Fr} : rix l = none ↔ ∀ f ∈ l, f ≠ .rnd := by
  induction l with
  | nil => simp [rix]
  | cons f l ih =>
    cases f <;> simp [rix, ih]
theorem rix_some : ∀ {l : List Fr} {n : Nat}, rix l = some n → ∃ l1 l2, l = l1 ++ .rnd :: l2 ∧ l1.length = n ∧ ∀ f ∈ l1, f ≠ .rnd
  | [], _, h => by simp [rix] at h
  | f :: l, n, h => by
    cases f with
    | rnd => simp only [rix, Option.some.injEq] at h; subst h; exact ⟨[], l, rfl, rfl, by simp⟩
    | caller a p =>
      simp only [rix, Option.map_eq_some_iff] at h
      obtain ⟨m, h1, h2⟩ := h
      obtain ⟨l1, l2, e, hl, hn⟩ := rix_some h1
      exact ⟨_ :: l1, l2, by rw [e]; rfl, by simp [hl, h2], by simpa using hn⟩
    | given a p =>
      simp only [rix, Option.map_eq_some_iff] at h
      obtain ⟨m, h1, h2⟩ := h
      obtain ⟨l1, l2, e, hl, hn⟩ := rix_some h1
      exact ⟨_ :: l1, l2, by rw [e]; rfl, by simp [hl, h2], by simpa using hn⟩
    | adder a p =>
      simp only [rix, Option.map_eq_some_iff] at h
      obtain ⟨m, h1, h2⟩ := h
      obtain ⟨l1, l2, e, hl, hn⟩ := rix_some h1
      exact ⟨_ :: l1, l2, by rw [e]; rfl, by simp [hl, h2], by simpa using hn⟩
    | added a p =>
      simp only [rix, Option.map_eq_some_iff] at h
      obtain ⟨m, h1, h2⟩ := h
      obtain ⟨l1, l2, e, hl, hn⟩ := rix_some h1
      exact ⟨_ :: l1, l2, by rw [e]; rfl, by simp [hl, h2], by simpa using hn⟩
    | picker a p q =>
      simp only [rix, Option.map_eq_some_iff] at h
      obtain ⟨m, h1, h2⟩ := h
      obtain ⟨l1, l2, e, hl, hn⟩ := rix_some h1
      exact ⟨_ :: l1, l2, by rw [e]; rfl, by simp [hl, h2], by simpa using hn⟩
theorem rix_lt {l : List Fr} {n : Nat} (h : rix l = some n) : n < l.length := by
  obtain ⟨l1, l2, e, hl, _⟩ := rix_some h
  rw [e]; simp; omega
theorem ds_len : ∀ l : List Fr, (Fr.ds l).length = l.length
  | [] => rfl
  | f :: l => by simp [Fr.ds, ds_len l]
theorem ds_app : ∀ l r : List Fr, Fr.ds (l ++ r) = Fr.ds l ++ Fr.ds r
  | [], r => rfl
  | f :: l, r => by simp [Fr.ds, ds_app l r]
theorem ds_map : ∀ l : List Fr, Fr.ds l = l.map Fr.d
  | [] => rfl
  | f :: l => by simp [Fr.ds, ds_map l]
theorem ds_rev (l : List Fr) : Fr.ds l.reverse = (Fr.ds l).reverse := by rw [ds_map, ds_map, List.map_reverse]
theorem ds_take (l : List Fr) (n : Nat) : (Fr.ds l).take n = Fr.ds (l.take n) := by rw [ds_map, ds_map, List.map_take]
theorem ds_drop (l : List Fr) (n : Nat) : (Fr.ds l).drop n = Fr.ds (l.drop n) := by rw [ds_map, ds_map, List.map_drop]
/-! ### lists in data -/
theorem atI_last {α : Type} (xs : List α) (x : α) : atI (xs ++ [x]) (-1) = some x := by
  unfold atI ixN
  have h1 : ¬ (0 : Int) ≤ -1 := by decide
  have h2 : 0 ≤ -1 + ((xs ++ [x]).length : Int) := by simp; omega
  simp
  rw [if_pos (by omega)]
  have : (-1 + ((xs.length : Int) + 1)).toNat = xs.length := by omega
  simp [this]
theorem cut_take {α : Type} (xs : List α) (n : Nat) : cutD xs none (some (n : Int)) = xs.take n := by
  unfold cutD
  rw [HT.sIx_none, HT.sIx_nat]
  simp
theorem cut_drop {α : Type} (xs : List α) (n : Nat) : cutD xs (some (n : Int)) none = xs.drop n := by
  unfold cutD
  rw [HT.sIx_none, HT.sIx_nat]
  by_cases h : n ≤ xs.length
  · rw [Nat.min_eq_left h, List.take_of_length_le (by rw [List.length_drop]; omega)]
  · rw [Nat.min_eq_right (by omega), List.drop_of_length_le (Nat.le_refl _), List.drop_of_length_le (by omega)]
    simp
theorem cut_init {α : Type} (xs : List α) (x : α) : cutD (xs ++ [x]) none (some (-1)) = xs := by
  have e : HT.sIx (xs ++ [x]).length (xs ++ [x]).length (some (-1)) = xs.length := by unfold HT.sIx; simp; omega
  unfold cutD
  rw [HT.sIx_none, e]
  simp
theorem lcD_filter {gd : G} {c : T} {e : E} {δ : Sl} (P : D → Bool) (f : D → D) : ∀ {ds : List D} {S : List O}, (∀ d, d ∈ ds → ∃ δ1, gd d δ = some δ1 ∧ c δ1 S = some (P d, S) ∧ (P d = true → e δ1 S = some (f d, S))) → lcD gd c e δ ds S = some ((ds.filter P).map f, S)
  | [], _, _ => rfl
  | d :: ds, S, h => by
    obtain ⟨δ1, h1, h2, h3⟩ := h d List.mem_cons_self
    have ih := lcD_filter (gd := gd) (c := c) (e := e) (δ := δ) P f (ds := ds) (S := S) (fun d hd => h d (List.mem_cons_of_mem _ hd))
    rw [lcD_c, h1, lcK2_1, h2]
    cases hp : P d with
    | true => rw [lcK3_1, h3 hp, lcK4_1, ih, lcK5_1, List.filter_cons_of_pos hp]; rfl
    | false => rw [lcK3_2, ih, List.filter_cons_of_neg (by simp [hp])]
theorem lcD_fil {α : Type} {gd : G} {c : T} {e : E} {δ : Sl} (P : α → Bool) (h g : α → D) : ∀ {l : List α} {S : List O}, (∀ a, a ∈ l → ∃ δ1, gd (h a) δ = some δ1 ∧ c δ1 S = some (P a, S) ∧ (P a = true → e δ1 S = some (g a, S))) → lcD gd c e δ (l.map h) S = some ((l.filter P).map g, S)
  | [], _, _ => rfl
  | d :: ds, S, hh => by
    obtain ⟨δ1, h1, h2, h3⟩ := hh d List.mem_cons_self
    have ih := lcD_fil (gd := gd) (c := c) (e := e) (δ := δ) P h g (l := ds) (S := S) (fun d hd => hh d (List.mem_cons_of_mem _ hd))
    rw [List.map_cons, lcD_c, h1, lcK2_1, h2]
    cases hp : P d with
    | true => rw [lcK3_1, h3 hp, lcK4_1, ih, lcK5_1, List.filter_cons_of_pos hp]; rfl
    | false => rw [lcK3_2, ih, List.filter_cons_of_neg (by simp [hp])]
theorem lcD_mapL {α : Type} {gd : G} {c : T} {e : E} {δ : Sl} (h g : α → D) {l : List α} {S : List O} (hh : ∀ a, a ∈ l → ∃ δ1, gd (h a) δ = some δ1 ∧ c δ1 S = some (true, S) ∧ e δ1 S = some (g a, S)) : lcD gd c e δ (l.map h) S = some (l.map g, S) := by
  have := lcD_fil (gd := gd) (c := c) (e := e) (δ := δ) (fun _ => true) h g (l := l) (S := S) (fun a ha => let ⟨δ1, h1, h2, h3⟩ := hh a ha; ⟨δ1, h1, h2, fun _ => h3⟩)
  rw [this, List.filter_eq_self.mpr (fun _ _ => rfl)]
end Cb
namespace Cb
open PySem PySem.Spec PyProof.Rows L2
/-! ## how big pieces get, step by step -/
mutual
/-- how deep the data stands -/
def fd : Pc → Nat
  | .num _ => 1
  | .name _ => 1
  | .fn _ _ b => fd b + 1
  | .call _ f g => max (fd f) (fd g) + 1
  | .plus _ f g => max (fd f) (fd g) + 1
  | .pick _ c f g => max (fd c) (max (fd f) (fd g)) + 1
  | .rnd b => fd b + 1
  | .take _ _ b => fd b + 1
  | .shut _ _ b => fd b + 1
  | .kept _ fs => fdF fs + 2
def fdR : Fr → Nat
  | .caller _ p => fd p + 1
  | .given _ p => fd p + 1
  | .adder _ p => fd p + 1
  | .added _ p => fd p + 1
  | .picker _ p q => max (fd p) (fd q) + 1
  | .rnd => 1
def fdF : List Fr → Nat
  | [] => 0
  | f :: fs => max (fdR f) (fdF fs)
end
mutual
theorem fd_is : ∀ p : Pc, (py p.d).depth = fd p
  | .num _ => by simp [Pc.d, py, pyL, PyData.depth, PyData.depthAll, fd]
  | .name _ => by simp [Pc.d, py, pyL, PyData.depth, PyData.depthAll, fd]
  | .fn _ _ b => by simp [Pc.d, py, pyL, PyData.depth, PyData.depthAll, fd, fd_is b]
  | .call _ f g => by simp [Pc.d, py, pyL, PyData.depth, PyData.depthAll, fd, fd_is f, fd_is g]
  | .plus _ f g => by simp [Pc.d, py, pyL, PyData.depth, PyData.depthAll, fd, fd_is f, fd_is g]
  | .pick _ c f g => by simp [Pc.d, py, pyL, PyData.depth, PyData.depthAll, fd, fd_is c, fd_is f, fd_is g]
  | .rnd b => by simp [Pc.d, py, pyL, PyData.depth, PyData.depthAll, fd, fd_is b]
  | .take _ _ b => by simp [Pc.d, py, pyL, PyData.depth, PyData.depthAll, fd, fd_is b]
  | .shut _ _ b => by simp [Pc.d, py, pyL, PyData.depth, PyData.depthAll, fd, fd_is b]
  | .kept _ fs => by simp [Pc.d, py, pyL, PyData.depth, PyData.depthAll, fd, fdF_is fs]
theorem fdR_is : ∀ f : Fr, (py f.d).depth = fdR f
  | .caller _ p => by simp [Fr.d, py, pyL, PyData.depth, PyData.depthAll, fdR, fd_is p]
  | .given _ p => by simp [Fr.d, py, pyL, PyData.depth, PyData.depthAll, fdR, fd_is p]
  | .adder _ p => by simp [Fr.d, py, pyL, PyData.depth, PyData.depthAll, fdR, fd_is p]
  | .added _ p => by simp [Fr.d, py, pyL, PyData.depth, PyData.depthAll, fdR, fd_is p]
  | .picker _ p q => by simp [Fr.d, py, pyL, PyData.depth, PyData.depthAll, fdR, fd_is p, fd_is q]
  | .rnd => by simp [Fr.d, py, pyL, PyData.depth, PyData.depthAll, fdR]
theorem fdF_is : ∀ fs : List Fr, PyData.depthAll (pyL (Fr.ds fs)) = fdF fs
  | [] => by simp [Fr.ds, pyL, PyData.depthAll, fdF]
  | f :: fs => by simp [Fr.ds, pyL, PyData.depthAll, fdF, fdR_is f, fdF_is fs]
end
/-- the longest way without a round from here; anywhere within -/
def us : Pc → Nat
  | .call _ f g => max (us f) (us g) + 1
  | .plus _ f g => max (us f) (us g) + 1
  | .pick _ c f g => max (us c) (max (us f) (us g)) + 1
  | _ => 0
def ms : Pc → Nat
  | .call _ f g => max (max (us f) (us g) + 1) (max (ms f) (ms g))
  | .plus _ f g => max (max (us f) (us g) + 1) (max (ms f) (ms g))
  | .pick _ c f g => max (max (us c) (max (us f) (us g)) + 1) (max (ms c) (max (ms f) (ms g)))
  | .rnd b => ms b
  | _ => 0
theorem us_ms : ∀ p : Pc, us p ≤ ms p := by intro p; cases p <;> simp only [us, ms] <;> omega
theorem us_cd : ∀ p : Pc, us p ≤ cd p
  | .call _ f g => by have := us_cd f; have := us_cd g; simp only [us, cd]; omega
  | .plus _ f g => by have := us_cd f; have := us_cd g; simp only [us, cd]; omega
  | .pick _ c f g => by have := us_cd c; have := us_cd f; have := us_cd g; simp only [us, cd]; omega
  | .num _ => by simp [us]
  | .name _ => by simp [us]
  | .fn .. => by simp [us]
  | .rnd _ => by simp [us]
  | .take .. => by simp [us]
  | .shut .. => by simp [us]
  | .kept .. => by simp [us]
theorem ms_cd : ∀ p : Pc, ms p ≤ cd p
  | .call _ f g => by have := us_cd f; have := us_cd g; have := ms_cd f; have := ms_cd g; simp only [ms, cd]; omega
  | .plus _ f g => by have := us_cd f; have := us_cd g; have := ms_cd f; have := ms_cd g; simp only [ms, cd]; omega
  | .pick _ c f g => by have := us_cd c; have := us_cd f; have := us_cd g; have := ms_cd c; have := ms_cd f; have := ms_cd g; simp only [ms, cd]; omega
  | .rnd b => by have := ms_cd b; simp only [ms, cd]; omega
  | .num _ => by simp [ms]
  | .name _ => by simp [ms]
  | .fn .. => by simp [ms]
  | .take .. => by simp [ms]
  | .shut .. => by simp [ms]
  | .kept .. => by simp [ms]
mutual
def Ok (M V : Nat) : List Str → Pc → Prop
  | _, .num _ => True
  | sc, .name x => x ∈ sc ∧ nmOk x
  | sc, .fn _ x b => nmOk x ∧ cd b ≤ 10 ∧ Ok M V (x :: sc) b
  | sc, .call _ f g => Ok M V sc f ∧ Ok M V sc g
  | sc, .plus _ f g => Ok M V sc f ∧ Ok M V sc g
  | sc, .pick _ c f g => Ok M V sc c ∧ Ok M V sc f ∧ Ok M V sc g
  | sc, .rnd b => Ok M V sc b
  | sc, .take _ x b => nmOk x ∧ cd b ≤ 10 ∧ Ok M V (x :: sc) b
  | _, .shut _ x b => nmOk x ∧ cd b ≤ 10 ∧ fd b + 1 ≤ V ∧ Ok M V [x] b
  | _, .kept _ fs => fs.length ≤ M ∧ ms (plug fs (.num 0)) ≤ M ∧ OkF M V fs
def OkR (M V : Nat) : Fr → Prop
  | .caller _ p => cd p ≤ 30 ∧ fd p + 3 ≤ V ∧ Ok M V [] p
  | .given _ v => v.isV = true ∧ fd v + 3 ≤ V ∧ Ok M V [] v
  | .adder _ p => cd p ≤ 30 ∧ fd p + 3 ≤ V ∧ Ok M V [] p
  | .added _ v => v.isV = true ∧ fd v + 3 ≤ V ∧ Ok M V [] v
  | .picker _ p q => (cd p ≤ 30 ∧ fd p + 3 ≤ V ∧ Ok M V [] p) ∧ cd q ≤ 30 ∧ fd q + 3 ≤ V ∧ Ok M V [] q
  | .rnd => True
def OkF (M V : Nat) : List Fr → Prop
  | [] => True
  | f :: fs => OkR M V f ∧ OkF M V fs
end
mutual
theorem Ok.mono {M M' V V' : Nat} (hM : M ≤ M') (hV : V ≤ V') : ∀ {p : Pc} {sc sc' : List Str}, (∀ y ∈ sc, y ∈ sc') → Ok M V sc p → Ok M' V' sc' p
  | .num _, _, _, _, _ => trivial
  | .name _, _, _, h, ⟨h1, h2⟩ => ⟨h _ h1, h2⟩
  | .fn _ x b, _, _, h, ⟨h1, h2, h3⟩ => ⟨h1, h2, Ok.mono hM hV (fun y hy => by
      rcases List.mem_cons.mp hy with q | q
      · rw [q]; exact List.mem_cons_self
      · exact List.mem_cons_of_mem _ (h y q)) h3⟩
  | .call _ f g, _, _, h, ⟨h1, h2⟩ => ⟨Ok.mono hM hV h h1, Ok.mono hM hV h h2⟩
  | .plus _ f g, _, _, h, ⟨h1, h2⟩ => ⟨Ok.mono hM hV h h1, Ok.mono hM hV h h2⟩
  | .pick _ c f g, _, _, h, ⟨h1, h2, h3⟩ => ⟨Ok.mono hM hV h h1, Ok.mono hM hV h h2, Ok.mono hM hV h h3⟩
  | .rnd b, sc, sc', h, h1 => by
    show Ok M' V' sc' b
    exact Ok.mono (p := b) (sc := sc) hM hV h h1
  | .take _ x b, _, _, h, ⟨h1, h2, h3⟩ => ⟨h1, h2, Ok.mono hM hV (fun y hy => by
      rcases List.mem_cons.mp hy with q | q
      · rw [q]; exact List.mem_cons_self
      · exact List.mem_cons_of_mem _ (h y q)) h3⟩
  | .shut _ x b, _, _, h, ⟨h1, h2, h3, h4⟩ => ⟨h1, h2, Nat.le_trans h3 hV, Ok.mono hM hV (fun y hy => hy) h4⟩
  | .kept _ fs, _, _, h, ⟨h1, h2, h3⟩ => ⟨Nat.le_trans h1 hM, Nat.le_trans h2 hM, OkF.mono hM hV h3⟩
theorem OkR.mono {M M' V V' : Nat} (hM : M ≤ M') (hV : V ≤ V') : ∀ {f : Fr}, OkR M V f → OkR M' V' f
  | .caller _ p, ⟨h1, h2, h3⟩ => ⟨h1, Nat.le_trans h2 hV, Ok.mono hM hV (fun y hy => hy) h3⟩
  | .given _ p, ⟨h1, h2, h3⟩ => ⟨h1, Nat.le_trans h2 hV, Ok.mono hM hV (fun y hy => hy) h3⟩
  | .adder _ p, ⟨h1, h2, h3⟩ => ⟨h1, Nat.le_trans h2 hV, Ok.mono hM hV (fun y hy => hy) h3⟩
  | .added _ p, ⟨h1, h2, h3⟩ => ⟨h1, Nat.le_trans h2 hV, Ok.mono hM hV (fun y hy => hy) h3⟩
  | .picker _ p q, ⟨⟨h1, h2, h3⟩, h4, h5, h6⟩ => ⟨⟨h1, Nat.le_trans h2 hV, Ok.mono hM hV (fun y hy => hy) h3⟩, h4, Nat.le_trans h5 hV, Ok.mono hM hV (fun y hy => hy) h6⟩
  | .rnd, _ => trivial
theorem OkF.mono {M M' V V' : Nat} (hM : M ≤ M') (hV : V ≤ V') : ∀ {fs : List Fr}, OkF M V fs → OkF M' V' fs
  | [], _ => trivial
  | f :: fs, ⟨h1, h2⟩ => ⟨OkR.mono hM hV h1, OkF.mono hM hV h2⟩
end
theorem Ok.put {M V : Nat} {x : Str} {v : Pc} (hv : Ok M V [] v) : ∀ {p : Pc} {sc sc' : List Str}, (∀ y ∈ sc, y = x ∨ y ∈ sc') → (v.isV = true) → Ok M V sc p → Ok M V sc' (put x v p)
  | .num _, _, _, _, _, _ => trivial
  | .name y, sc, sc', h, _, ⟨h1, h2⟩ => by
    simp only [Cb.put]
    split
    · exact hv.mono (Nat.le_refl _) (Nat.le_refl _) (by simp)
    · rename_i hne
      rcases h y h1 with q | q
      · exact absurd q hne
      · exact ⟨q, h2⟩
  | .fn a y b, sc, sc', h, hvv, ⟨h1, h2, h3⟩ => by
    simp only [Cb.put]
    split
    · rename_i e
      refine ⟨h1, h2, h3.mono (Nat.le_refl _) (Nat.le_refl _) fun z hz => ?_⟩
      rcases List.mem_cons.mp hz with q | q
      · rw [q]; exact List.mem_cons_self
      · rcases h z q with q | q
        · rw [q, e]; exact List.mem_cons_self
        · exact List.mem_cons_of_mem _ q
    · refine ⟨h1, by rw [cd_put' x v hvv]; exact h2, Ok.put (p := b) hv (fun z hz => ?_) hvv h3⟩
      rcases List.mem_cons.mp hz with q | q
      · rw [q]; exact .inr List.mem_cons_self
      · rcases h z q with q | q
        · exact .inl q
        · exact .inr (List.mem_cons_of_mem _ q)
  | .take a y b, sc, sc', h, hvv, ⟨h1, h2, h3⟩ => by
    simp only [Cb.put]
    split
    · rename_i e
      refine ⟨h1, h2, h3.mono (Nat.le_refl _) (Nat.le_refl _) fun z hz => ?_⟩
      rcases List.mem_cons.mp hz with q | q
      · rw [q]; exact List.mem_cons_self
      · rcases h z q with q | q
        · rw [q, e]; exact List.mem_cons_self
        · exact List.mem_cons_of_mem _ q
    · refine ⟨h1, by rw [cd_put' x v hvv]; exact h2, Ok.put (p := b) hv (fun z hz => ?_) hvv h3⟩
      rcases List.mem_cons.mp hz with q | q
      · rw [q]; exact .inr List.mem_cons_self
      · rcases h z q with q | q
        · exact .inl q
        · exact .inr (List.mem_cons_of_mem _ q)
  | .call a f g, sc, sc', h, hvv, ⟨h1, h2⟩ => ⟨Ok.put (p := f) hv h hvv h1, Ok.put (p := g) hv h hvv h2⟩
  | .plus a f g, sc, sc', h, hvv, ⟨h1, h2⟩ => ⟨Ok.put (p := f) hv h hvv h1, Ok.put (p := g) hv h hvv h2⟩
  | .pick a c f g, sc, sc', h, hvv, ⟨h1, h2, h3⟩ => ⟨Ok.put (p := c) hv h hvv h1, Ok.put (p := f) hv h hvv h2, Ok.put (p := g) hv h hvv h3⟩
  | .rnd b, sc, sc', h, hvv, h1 => by
    show Ok M V sc' (Cb.put x v b)
    exact Ok.put (p := b) (sc := sc) hv h hvv h1
  | .shut .., _, _, _, _, h => h
  | .kept .., _, _, _, _, h => h
where cd_put' (x : Str) (v : Pc) (hv : v.isV = true) : ∀ (p : Pc), cd (Cb.put x v p) = cd p
  | .num _ => rfl
  | .name y => by
    simp only [Cb.put]
    split
    · cases v <;> first | rfl | (simp [Pc.isV] at hv; done)
    · rfl
  | .fn a y b => by simp only [Cb.put]; split <;> simp [cd, cd_put' x v hv b]
  | .take a y b => by simp only [Cb.put]; split <;> simp [cd, cd_put' x v hv b]
  | .call _ f g => by simp [Cb.put, cd, cd_put' x v hv f, cd_put' x v hv g]
  | .plus _ f g => by simp [Cb.put, cd, cd_put' x v hv f, cd_put' x v hv g]
  | .pick _ c f g => by simp [Cb.put, cd, cd_put' x v hv c, cd_put' x v hv f, cd_put' x v hv g]
  | .rnd b => by simp [Cb.put, cd, cd_put' x v hv b]
  | .shut .. => rfl
  | .kept .. => rfl
theorem str_lay (s : Str) (h : PyData.strOk s = true) : (py (.str s)).canLay0 = true := by simpa [py, PyData.canLay0] using h
mutual
theorem Ok.lay {M V : Nat} : ∀ {p : Pc} {sc : List Str}, Ok M V sc p → (py p.d).canLay0 = true
  | .num _, _, _ => by simp [Pc.d, py, pyL, PyData.canLay0, PyData.canLayAll0]; decide +kernel
  | .name x, _, h => by simp [Pc.d, py, pyL, PyData.canLay0, PyData.canLayAll0, nm_strOk h.2]; decide +kernel
  | .fn a x b, _, h => by simp [Pc.d, py, pyL, PyData.canLay0, PyData.canLayAll0, nm_strOk h.1, Ok.lay h.2.2]; decide +kernel
  | .call _ f g, _, h => by simp [Pc.d, py, pyL, PyData.canLay0, PyData.canLayAll0, Ok.lay h.1, Ok.lay h.2]; decide +kernel
  | .plus _ f g, _, h => by simp [Pc.d, py, pyL, PyData.canLay0, PyData.canLayAll0, Ok.lay h.1, Ok.lay h.2]; decide +kernel
  | .pick _ c f g, _, h => by simp [Pc.d, py, pyL, PyData.canLay0, PyData.canLayAll0, Ok.lay h.1, Ok.lay h.2.1, Ok.lay h.2.2]; decide +kernel
  | .rnd b, sc, h => by
    have h' : Ok M V sc b := h
    simp [Pc.d, py, pyL, PyData.canLay0, PyData.canLayAll0, Ok.lay h']; decide +kernel
  | .take a x b, _, h => by simp [Pc.d, py, pyL, PyData.canLay0, PyData.canLayAll0, nm_strOk h.1, Ok.lay h.2.2]; decide +kernel
  | .shut a x b, _, h => by simp [Pc.d, py, pyL, PyData.canLay0, PyData.canLayAll0, nm_strOk h.1, Ok.lay h.2.2.2]; decide +kernel
  | .kept a fs, _, h => by simp [Pc.d, py, pyL, PyData.canLay0, PyData.canLayAll0, OkF.lay h.2.2]; decide +kernel
theorem OkR.lay {M V : Nat} : ∀ {f : Fr}, OkR M V f → (py f.d).canLay0 = true
  | .caller _ p, h => by simp [Fr.d, py, pyL, PyData.canLay0, PyData.canLayAll0, Ok.lay h.2.2]; decide +kernel
  | .given _ p, h => by simp [Fr.d, py, pyL, PyData.canLay0, PyData.canLayAll0, Ok.lay h.2.2]; decide +kernel
  | .adder _ p, h => by simp [Fr.d, py, pyL, PyData.canLay0, PyData.canLayAll0, Ok.lay h.2.2]; decide +kernel
  | .added _ p, h => by simp [Fr.d, py, pyL, PyData.canLay0, PyData.canLayAll0, Ok.lay h.2.2]; decide +kernel
  | .picker _ p q, h => by simp [Fr.d, py, pyL, PyData.canLay0, PyData.canLayAll0, Ok.lay h.1.2.2, Ok.lay h.2.2.2]; decide +kernel
  | .rnd, _ => by simp [Fr.d, py, pyL, PyData.canLay0, PyData.canLayAll0]; decide +kernel
theorem OkF.lay {M V : Nat} : ∀ {fs : List Fr}, OkF M V fs → PyData.canLayAll0 (pyL (Fr.ds fs)) = true
  | [], _ => by simp [Fr.ds, pyL, PyData.canLayAll0]
  | f :: fs, h => by simp [Fr.ds, pyL, PyData.canLayAll0, OkR.lay h.1, OkF.lay h.2]
end
theorem OkR.fd {M V : Nat} (h3 : 3 ≤ V) {f : Fr} (h : OkR M V f) : fdR f + 2 ≤ V := by
  cases f with
  | caller a p => obtain ⟨h1, h2, _⟩ := h; simp only [fdR]; omega
  | given a p => obtain ⟨h1, h2, _⟩ := h; simp only [fdR]; omega
  | adder a p => obtain ⟨h1, h2, _⟩ := h; simp only [fdR]; omega
  | added a p => obtain ⟨h1, h2, _⟩ := h; simp only [fdR]; omega
  | picker a p q => obtain ⟨⟨h1, h2, _⟩, h4, h5, _⟩ := h; simp only [fdR]; omega
  | rnd => simp only [fdR]; omega
theorem OkF.fd {M V : Nat} (h3 : 3 ≤ V) : ∀ {fs : List Fr}, OkF M V fs → fdF fs + 2 ≤ V
  | [], _ => by simp only [fdF]; omega
  | f :: fs, h => by
    have h1 := h.1.fd h3
    have h2 := OkF.fd h3 h.2
    simp only [fdF]
    omega
/-- a value's depth; a piece's -/
theorem Ok.fdV {M V : Nat} (h3 : 3 ≤ V) {v : Pc} {sc : List Str} (h : Ok M V sc v) (hv : v.isV = true) : fd v ≤ V := by
  cases v with
  | num n => simp only [Cb.fd]; omega
  | shut a x b => simp only [Cb.fd]; exact h.2.2.1
  | kept a fs => simp only [Cb.fd]; exact OkF.fd h3 h.2.2
  | _ => simp [Pc.isV] at hv
theorem Ok.fd {M V : Nat} (h3 : 3 ≤ V) : ∀ {p : Pc} {sc : List Str}, Ok M V sc p → fd p ≤ cd p + V
  | .num _, _, _ => by simp only [Cb.fd, cd]; omega
  | .name x, _, h => by simp only [Cb.fd, cd]; omega
  | .fn a x b, _, h => by have := Ok.fd h3 h.2.2; simp only [Cb.fd, cd]; omega
  | .call _ f g, _, h => by have := Ok.fd h3 h.1; have := Ok.fd h3 h.2; simp only [Cb.fd, cd]; omega
  | .plus _ f g, _, h => by have := Ok.fd h3 h.1; have := Ok.fd h3 h.2; simp only [Cb.fd, cd]; omega
  | .pick _ c f g, _, h => by have := Ok.fd h3 h.1; have := Ok.fd h3 h.2.1; have := Ok.fd h3 h.2.2; simp only [Cb.fd, cd]; omega
  | .rnd b, sc, h => by
    have h' : Ok M V sc b := h
    have := Ok.fd h3 h'; simp only [Cb.fd, cd]; omega
  | .take a x b, _, h => by have := Ok.fd h3 h.2.2; simp only [Cb.fd, cd]; omega
  | .shut a x b, sc, h => by have := Ok.fdV h3 h rfl; simp only [cd]; omega
  | .kept a fs, sc, h => by have := Ok.fdV h3 h rfl; simp only [cd]; omega
/-! ### the way down -/
def Sp : Pc → Prop
  | .rnd b => Sp b
  | .pick _ c f g => Sp c ∧ cd f ≤ 30 ∧ cd g ≤ 30
  | .call _ f g => (f.isV = true ∧ Sp g) ∨ (Sp f ∧ cd g ≤ 30)
  | .plus _ f g => (f.isV = true ∧ Sp g) ∨ (Sp f ∧ cd g ≤ 30)
  | _ => True
theorem sp_of : ∀ {p : Pc}, cd p ≤ 31 → Sp p
  | .rnd b, h => by simp only [cd] at h; exact sp_of (p := b) (by omega)
  | .pick _ c f g, h => by simp only [cd] at h; exact ⟨sp_of (by omega), by omega, by omega⟩
  | .call _ f g, h => by simp only [cd] at h; exact .inr ⟨sp_of (by omega), by omega⟩
  | .plus _ f g, h => by simp only [cd] at h; exact .inr ⟨sp_of (by omega), by omega⟩
  | .num _, _ => trivial
  | .name _, _ => trivial
  | .fn .., _ => trivial
  | .take .., _ => trivial
  | .shut .., _ => trivial
  | .kept .., _ => trivial
def FrP (M V : Nat) : Fr → Prop
  | .caller _ p => cd p ≤ 30 ∧ Ok M V [] p
  | .given _ v => v.isV = true ∧ Ok M V [] v
  | .adder _ p => cd p ≤ 30 ∧ Ok M V [] p
  | .added _ v => v.isV = true ∧ Ok M V [] v
  | .picker _ p q => (cd p ≤ 30 ∧ Ok M V [] p) ∧ cd q ≤ 30 ∧ Ok M V [] q
  | .rnd => True
theorem OkR.frP {M V : Nat} {f : Fr} (h : OkR M V f) : FrP M V f := by
  cases f with
  | caller a p => exact ⟨h.1, h.2.2⟩
  | given a p => exact ⟨h.1, h.2.2⟩
  | adder a p => exact ⟨h.1, h.2.2⟩
  | added a p => exact ⟨h.1, h.2.2⟩
  | picker a p q => exact ⟨⟨h.1.1, h.1.2.2⟩, h.2.1, h.2.2.2⟩
  | rnd => trivial
theorem OkF.frP {M V : Nat} : ∀ {fs : List Fr}, OkF M V fs → ∀ f ∈ fs, FrP M V f
  | [], _, f, hf => by simp at hf
  | g :: fs, h, f, hf => by
    rcases List.mem_cons.mp hf with q | q
    · rw [q]; exact h.1.frP
    · exact OkF.frP h.2 f q
theorem FrP.okR {M V : Nat} (h3 : 3 ≤ V) {f : Fr} (h : FrP M V f) : OkR M (V + 33) f := by
  have m : ∀ {p : Pc} {sc : List Str}, Ok M V sc p → Ok M (V + 33) sc p := fun h => h.mono (Nat.le_refl _) (by omega) fun _ y => y
  cases f with
  | caller a p => exact ⟨h.1, by have := h.2.fd h3; have := h.1; omega, m h.2⟩
  | given a p => exact ⟨h.1, by have := h.2.fdV h3 h.1; omega, m h.2⟩
  | adder a p => exact ⟨h.1, by have := h.2.fd h3; have := h.1; omega, m h.2⟩
  | added a p => exact ⟨h.1, by have := h.2.fdV h3 h.1; omega, m h.2⟩
  | picker a p q => exact ⟨⟨h.1.1, by have := h.1.2.fd h3; have := h.1.1; omega, m h.1.2⟩, h.2.1, by have := h.2.2.fd h3; have := h.2.1; omega, m h.2.2⟩
  | rnd => trivial
theorem okF_of {M V : Nat} (h3 : 3 ≤ V) : ∀ {fs : List Fr}, (∀ f ∈ fs, FrP M V f) → OkF M (V + 33) fs
  | [], _ => trivial
  | f :: fs, h => ⟨(h f List.mem_cons_self).okR h3, okF_of h3 fun g hg => h g (List.mem_cons_of_mem _ hg)⟩
theorem w_ok {M V : Nat} {f : Fr} {q : Pc} (h : FrP M V f) (hq : Ok M V [] q) : Ok M V [] (f.w q) := by
  cases f with
  | caller a p => exact ⟨hq, h.2⟩
  | given a p => exact ⟨h.2, hq⟩
  | adder a p => exact ⟨hq, h.2⟩
  | added a p => exact ⟨h.2, hq⟩
  | picker a p q => exact ⟨hq, h.1.2, h.2.2⟩
  | rnd => exact hq
theorem w_sp {M V : Nat} {f : Fr} {q : Pc} (h : FrP M V f) (hq : Sp q) : Sp (f.w q) := by
  cases f with
  | caller a p => exact .inr ⟨hq, h.1⟩
  | given a p => exact .inl ⟨h.1, hq⟩
  | adder a p => exact .inr ⟨hq, h.1⟩
  | added a p => exact .inl ⟨h.1, hq⟩
  | picker a p q => exact ⟨hq, h.1.1, h.2.1⟩
  | rnd => exact hq
theorem plug_ok {M V : Nat} : ∀ {fs : List Fr} {q : Pc}, (∀ f ∈ fs, FrP M V f) → Ok M V [] q → Ok M V [] (plug fs q)
  | [], _, _, h => h
  | f :: fs, q, h, hq => plug_ok (fs := fs) (fun g hg => h g (List.mem_cons_of_mem _ hg)) (w_ok (h f List.mem_cons_self) hq)
theorem plug_sp {M V : Nat} : ∀ {fs : List Fr} {q : Pc}, (∀ f ∈ fs, FrP M V f) → Sp q → Sp (plug fs q)
  | [], _, _, h => h
  | f :: fs, q, h, hq => plug_sp (fs := fs) (fun g hg => h g (List.mem_cons_of_mem _ hg)) (w_sp (h f List.mem_cons_self) hq)
theorem down {M V : Nat} (p : Pc) (h : Ok M V [] p) (hs : Sp p) : (∀ f ∈ frs p, FrP M V f) ∧ Ok M V [] (hd p) ∧ Sp (hd p) := by
  induction p using frs_ind with
  | h0 p hi => rw [(inn_none hi).1, (inn_none hi).2]; exact ⟨by simp, h, hs⟩
  | h1 p f q hi ih =>
    obtain ⟨e1, e2, e3, e4, _⟩ := inn_some hi
    have key : FrP M V f ∧ Ok M V [] q ∧ Sp q := by
      subst e3
      cases f with
      | rnd => exact ⟨trivial, h, hs⟩
      | caller a g =>
        refine ⟨⟨?_, h.2⟩, h.1, ?_⟩
        · rcases hs with z | z
          · rw [e4] at z; exact absurd z.1 (by simp)
          · exact z.2
        · rcases hs with z | z
          · rw [e4] at z; exact absurd z.1 (by simp)
          · exact z.1
      | adder a g =>
        refine ⟨⟨?_, h.2⟩, h.1, ?_⟩
        · rcases hs with z | z
          · rw [e4] at z; exact absurd z.1 (by simp)
          · exact z.2
        · rcases hs with z | z
          · rw [e4] at z; exact absurd z.1 (by simp)
          · exact z.1
      | given a g =>
        have hv : g.isV = true := by
          cases w : g.isV with
          | true => rfl
          | false => simp [Fr.w, inn, w] at hi
        refine ⟨⟨hv, h.1⟩, h.2, ?_⟩
        rcases hs with z | z
        · exact z.2
        · exact sp_of (by have := z.2; omega)
      | added a g =>
        have hv : g.isV = true := by
          cases w : g.isV with
          | true => rfl
          | false => simp [Fr.w, inn, w] at hi
        refine ⟨⟨hv, h.1⟩, h.2, ?_⟩
        rcases hs with z | z
        · exact z.2
        · exact sp_of (by have := z.2; omega)
      | picker a p1 p2 => exact ⟨⟨⟨hs.2.1, h.2.1⟩, hs.2.2, h.2.2⟩, h.1, hs.1⟩
    obtain ⟨k1, k2, k3⟩ := ih key.2.1 key.2.2
    rw [e1, e2]
    exact ⟨fun g hg => by
      rcases List.mem_cons.mp hg with z | z
      · rw [z]; exact key.1
      · exact k1 g z, k2, k3⟩
theorem plug_ms {d M0 : Nat} : ∀ {fs : List Fr} {h q : Pc}, us q ≤ us h + d → ms q ≤ max (ms h + d) M0 → us (plug fs q) ≤ us (plug fs h) + d ∧ ms (plug fs q) ≤ max (ms (plug fs h) + d) M0
  | [], _, _, a, b => ⟨a, b⟩
  | f :: fs, h, q, a, b => by
    refine plug_ms (fs := fs) (h := f.w h) (q := f.w q) ?_ ?_
    · cases f <;> simp only [Fr.w, us] <;> omega
    · cases f <;> simp only [Fr.w, ms] <;> omega
theorem plug_cd {d : Nat} : ∀ {fs : List Fr} {h q : Pc}, cd q ≤ cd h + d → cd (plug fs q) ≤ cd (plug fs h) + d
  | [], _, _, a => a
  | f :: fs, h, q, a => by
    refine plug_cd (fs := fs) (h := f.w h) (q := f.w q) ?_
    cases f <;> simp only [Fr.w, cd] <;> omega
theorem plug_len {M V : Nat} : ∀ {fs : List Fr} {q : Pc}, (∀ f ∈ fs, FrP M V f) → cd (plug fs q) ≤ fs.length + max (cd q) 30
  | [], _, _ => by simp only [plug, List.length_nil]; omega
  | f :: fs, q, h => by
    have h1 := plug_len (fs := fs) (q := f.w q) (fun g hg => h g (List.mem_cons_of_mem _ hg))
    have h2 := h f List.mem_cons_self
    have hv : ∀ v : Pc, v.isV = true → cd v = 1 := by intro v hv; cases v <;> simp_all [Pc.isV, cd]
    have h3 : cd (f.w q) ≤ max (cd q) 30 + 1 := by
      have hq := cd_pos'' q
      cases f with
      | caller a p => have := h2.1; simp only [Fr.w, cd]; omega
      | given a p => have := hv _ h2.1; simp only [Fr.w, cd]; omega
      | adder a p => have := h2.1; simp only [Fr.w, cd]; omega
      | added a p => have := hv _ h2.1; simp only [Fr.w, cd]; omega
      | picker a p q => have := h2.1.1; have := h2.2.1; simp only [Fr.w, cd]; omega
      | rnd => simp only [Fr.w, cd]; omega
    simp only [plug, List.length_cons]
    omega
where cd_pos'' : ∀ p : Pc, 1 ≤ cd p := by intro p; cases p <;> simp [cd]
theorem plug_us : ∀ {fs : List Fr} {h : Pc}, (∀ f ∈ fs, f ≠ .rnd) → us h + fs.length ≤ us (plug fs h)
  | [], _, _ => Nat.le_refl _
  | f :: fs, h, hf => by
    have h1 := plug_us (fs := fs) (h := f.w h) (fun g hg => hf g (List.mem_cons_of_mem _ hg))
    have h2 : us h + 1 ≤ us (f.w h) := by
      have := hf f List.mem_cons_self
      cases f <;> simp only [Fr.w, us] <;> first | omega | contradiction
    simp only [plug, List.length_cons]
    omega
theorem plug_ms_le : ∀ {fs : List Fr} {h : Pc}, ms h ≤ ms (plug fs h)
  | [], _ => Nat.le_refl _
  | f :: fs, h => by
    have h1 := plug_ms_le (fs := fs) (h := f.w h)
    have h2 : ms h ≤ ms (f.w h) := by cases f <;> simp only [Fr.w, ms] <;> omega
    simp only [plug]
    omega
structure Gd (M V D : Nat) (p : Pc) : Prop where
  ok : Ok M V [] p
  sp : Sp p
  ms : ms p ≤ M
  cd : cd p ≤ D
theorem Gd.mono {M V D M' V' D' : Nat} {p : Pc} (h : Gd M V D p) (h1 : M ≤ M') (h2 : V ≤ V') (h3 : D ≤ D') : Gd M' V' D' p :=
  ⟨h.ok.mono h1 h2 fun _ y => y, h.sp, Nat.le_trans h.ms h1, Nat.le_trans h.cd h3⟩
theorem isV_num {v : Pc} (hv : v.isV = true) : us v = 0 ∧ Cb.ms v = 0 ∧ Cb.cd v = 1 := by cases v <;> simp_all [Pc.isV, us, Cb.ms, Cb.cd]
theorem Gd.step {M V D : Nat} {p q : Pc} (h3 : 3 ≤ V) (g : Gd M V D p) (hs : step p = .step q) : Gd (M + 10) (V + 33) (D + 10) q ∨ Gd M (V + 33) (D + M + 31) q := by
  have hv : p.isV = false := by
    cases w : p.isV with
    | false => rfl
    | true => simp [Cb.step, w] at hs
  have es : Cb.step p = stepH (frs p).reverse (hd p) := by unfold Cb.step; rw [hv]; rfl
  rw [es] at hs
  obtain ⟨d1, d2, d3⟩ := down p g.ok g.sp
  have ep := plug_frs p
  have gm := g.ms
  have gc := g.cd
  rw [← ep] at gm gc
  have d1' : ∀ f ∈ (frs p).reverse, FrP M V f := fun f hf => d1 f (List.mem_reverse.mp hf)
  generalize (frs p).reverse = L at hs gm gc d1'
  have hi := hd_inn p
  have hhv := hd_isV hv
  generalize hd p = h at hs gm gc d2 d3 hi hhv
  -- a new part in the place of what was next
  have new : ∀ (q : Pc), Ok M (V + 33) [] q → Sp q → us q ≤ us h + 0 → Cb.ms q ≤ max (Cb.ms h + 0) M → Cb.cd q ≤ Cb.cd h + 0 → Gd (M + 10) (V + 33) (D + 10) (plug L q) := by
    intro q q1 q2 q3 q4 q5
    have m := plug_ms (fs := L) q3 q4
    have c := plug_cd (fs := L) q5
    exact ⟨(plug_ok (fun f hf => ((d1' f hf).okR h3).frP) q1).mono (by omega) (Nat.le_refl _) fun _ y => y, plug_sp d1' q2, by have := m.2; omega, by omega⟩
  have mV : ∀ {p : Pc} {sc : List Str}, Ok M V sc p → Ok M (V + 33) sc p := fun h => h.mono (Nat.le_refl _) (by omega) fun _ y => y
  cases h with
  | num n => simp [Pc.isV] at hhv
  | shut a x b => simp [Pc.isV] at hhv
  | kept a fs => simp [Pc.isV] at hhv
  | name x => exact absurd d2.1 (by simp)
  | take a x b =>
    simp only [stepH] at hs
    cases hr : rix L with
    | none => rw [hr] at hs; simp at hs
    | some n =>
      rw [hr] at hs
      simp only [Stp.step.injEq] at hs
      subst hs
      obtain ⟨l1, l2, e1, e2, e3⟩ := rix_some hr
      have t1 : L.take n = l1 := by rw [e1, ← e2, List.take_left]
      have t2 : L.drop n = .rnd :: l2 := by rw [e1, ← e2, List.drop_left]
      rw [t1, t2]
      obtain ⟨n1, n2, n3⟩ := d2
      have f1 : ∀ f ∈ l1, FrP M V f := fun f hf => d1' f (by rw [e1]; exact List.mem_append_left _ hf)
      have f2 : ∀ f ∈ Fr.rnd :: l2, FrP M V f := fun f hf => d1' f (by rw [e1]; exact List.mem_append_right _ hf)
      rw [e1, plug_app] at gm gc
      have m1 : Cb.ms (plug l1 (.take a x b)) ≤ M := Nat.le_trans plug_ms_le gm
      have m2 : l1.length ≤ M := by
        have := plug_us (fs := l1) (h := .take a x b) e3
        have := us_ms (plug l1 (.take a x b))
        omega
      have m3 : Cb.ms (plug l1 (.num 0)) ≤ M := by
        have := (plug_ms (d := 0) (M0 := M) (fs := l1) (h := .take a x b) (q := .num 0) (by simp [us]) (by simp [Cb.ms])).2
        omega
      have kept : Ok M (V + 33) [] (.kept a l1) := ⟨m2, m3, okF_of h3 f1⟩
      have q1 : Ok M (V + 33) [] (Cb.put x (.kept a l1) b) := Ok.put kept (sc := [x]) (by simp) rfl (mV n3)
      have q2 : Cb.cd (Cb.put x (.kept a l1) b) ≤ 10 := by rw [Ok.put.cd_put' x _ rfl]; exact n2
      left
      refine ⟨(plug_ok (fun f hf => ((f2 f hf).okR h3).frP) q1).mono (by omega) (Nat.le_refl _) fun _ y => y, plug_sp f2 (sp_of (by omega)), ?_, ?_⟩
      · have := (plug_ms (d := 10) (M0 := 10) (fs := .rnd :: l2) (h := plug l1 (.take a x b)) (q := Cb.put x (.kept a l1) b) (by have := us_cd (Cb.put x (.kept a l1) b); omega) (by have := ms_cd (Cb.put x (.kept a l1) b); omega)).2
        omega
      · have := plug_cd (d := 10) (fs := .rnd :: l2) (h := plug l1 (.take a x b)) (q := Cb.put x (.kept a l1) b) (by omega)
        omega
  | fn a x b =>
    simp only [stepH, becomes, Stp.step.injEq] at hs
    subst hs
    left
    obtain ⟨n1, n2, n3⟩ := d2
    have := n3.fd h3
    exact new _ ⟨n1, n2, by omega, mV n3⟩ trivial (by simp [us]) (by simp [Cb.ms]) (by simp [Cb.cd])
  | rnd b =>
    simp only [stepH, becomes, Stp.step.injEq] at hs
    subst hs
    left
    have bv : b.isV = true := by
      cases w : b.isV with
      | true => rfl
      | false => simp [inn, w] at hi
    obtain ⟨b1, b2, b3⟩ := isV_num bv
    have d2 : Ok M V [] b := d2
    exact new _ (mV d2) (by cases b <;> first | trivial | (simp [Pc.isV] at bv; done)) (by omega) (by omega) (by simp only [Cb.cd]; omega)
  | call a f v =>
    have hf : f.isV = true ∧ v.isV = true := by
      cases q : f.isV <;> cases q' : v.isV <;> simp [inn, q, q'] at hi ⊢
    obtain ⟨hf, hv'⟩ := hf
    obtain ⟨o1, o2⟩ := d2
    cases f with
    | num n => simp [stepH, becomes] at hs
    | shut c x b =>
      simp only [stepH, becomes, Stp.step.injEq] at hs
      subst hs
      left
      obtain ⟨n1, n2, n3, n4⟩ := o1
      have q1 : Ok M (V + 33) [] (Cb.put x v b) := Ok.put (mV o2) (sc := [x]) (by simp) hv' (mV n4)
      have q2 : Cb.cd (Cb.put x v b) ≤ 10 := by rw [Ok.put.cd_put' x _ hv']; exact n2
      refine ⟨(plug_ok (fun f hf => ((d1' f hf).okR h3).frP) q1).mono (by omega) (Nat.le_refl _) fun _ y => y, plug_sp d1' (sp_of (by omega)), ?_, ?_⟩
      · have := (plug_ms (d := 10) (M0 := 10) (fs := L) (h := .call a (.shut c x b) v) (q := Cb.put x v b) (by have := us_cd (Cb.put x v b); omega) (by have := ms_cd (Cb.put x v b); omega)).2
        omega
      · have := plug_cd (d := 10) (fs := L) (h := .call a (.shut c x b) v) (q := Cb.put x v b) (by omega)
        omega
    | kept c fs =>
      simp only [stepH, becomes, Stp.step.injEq] at hs
      subst hs
      right
      obtain ⟨n1, n2, n3⟩ := o1
      obtain ⟨v1, v2, v3⟩ := isV_num hv'
      have fp := n3.frP
      have q1 : Ok M V [] (plug fs v) := plug_ok fp o2
      have q2 : Sp (plug fs v) := plug_sp fp (by cases v <;> first | trivial | (simp [Pc.isV] at hv'; done))
      have q3 := plug_len (q := v) fp
      have q4 := (plug_ms (d := 0) (M0 := M) (fs := fs) (h := .num 0) (q := v) (by simp [us, v1]) (by simp [Cb.ms, v2])).2
      refine ⟨plug_ok (fun f hf => ((d1' f hf).okR h3).frP) (mV q1), plug_sp d1' q2, ?_, ?_⟩
      · have := (plug_ms (d := 0) (M0 := M) (fs := L) (h := .call a (.kept c fs) v) (q := .rnd (plug fs v)) (by simp [us]) (by simp only [Cb.ms]; omega)).2
        omega
      · have := plug_cd (d := M + 31) (fs := L) (h := .call a (.kept c fs) v) (q := .rnd (plug fs v)) (by simp only [Cb.cd]; omega)
        omega
    | _ => simp [Pc.isV] at hf
  | plus a f v =>
    cases f with
    | num m =>
      cases v with
      | num n =>
        simp only [stepH, becomes, Stp.step.injEq] at hs
        subst hs
        left
        exact new _ trivial trivial (by simp [us]) (by simp [Cb.ms]) (by simp [Cb.cd])
      | _ => simp [stepH, becomes] at hs
    | _ => simp [stepH, becomes] at hs
  | pick a c f v =>
    cases c with
    | num n =>
      simp only [stepH, becomes, Stp.step.injEq] at hs
      subst hs
      left
      obtain ⟨o1, o2, o3⟩ := d2
      obtain ⟨s1, s2, s3⟩ := d3
      split
      · exact new _ (mV o2) (sp_of (by omega)) (by simp only [us]; omega) (by simp only [Cb.ms]; omega) (by simp only [Cb.cd]; omega)
      · exact new _ (mV o3) (sp_of (by omega)) (by simp only [us]; omega) (by simp only [Cb.ms]; omega) (by simp only [Cb.cd]; omega)
    | _ => simp [stepH, becomes] at hs
end Cb
namespace Cb
open PySem PySem.Spec PyProof.Rows L2
/-! ## the machine, plain -/
mutual
inductive Vl where
  | num (n : Int) | shut (a : Int) (x : Str) (b : Pc) (e : En) | kept (a : Int) (fs : List Mf)
inductive En where
  | nil | cons (x : Str) (v : Vl) (e : En)
inductive Mf where
  | caller (a : Int) (p : Pc) (e : En) | given (a : Int) (v : Vl) | adder (a : Int) (p : Pc) (e : En) | added (a : Int) (v : Vl) | picker (a : Int) (p q : Pc) (e : En) | rnd
end
mutual
def Vl.d : Vl → D
  | .num n => .tup [.str "num", .int n]
  | .shut a x b e => .tup [.str "shut", .int a, .str x, b.d, .tup (En.ds e)]
  | .kept a fs => .tup [.str "kept", .int a, .tup (Mf.ds fs)]
def En.ds : En → List D
  | .nil => []
  | .cons x v e => .tup [.str x, v.d] :: En.ds e
def Mf.d : Mf → D
  | .caller a p e => .tup [.str "caller", .int a, p.d, .tup (En.ds e)]
  | .given a v => .tup [.str "given", .int a, v.d]
  | .adder a p e => .tup [.str "adder", .int a, p.d, .tup (En.ds e)]
  | .added a v => .tup [.str "added", .int a, v.d]
  | .picker a p q e => .tup [.str "picker", .int a, p.d, q.d, .tup (En.ds e)]
  | .rnd => .tup [.str "round"]
def Mf.ds : List Mf → List D
  | [] => []
  | f :: fs => f.d :: Mf.ds fs
end
inductive Sm where
  | go (p : Pc) (e : En) (fs : List Mf) | have (v : Vl) (fs : List Mf)
def Sm.d : Sm → D
  | .go p e fs => .tup [.str "go", p.d, .tup e.ds, .tup (Mf.ds fs)]
  | .have v fs => .tup [.str "have", v.d, .tup (Mf.ds fs)]
def look : En → Str → Option Vl
  | .nil, _ => none
  | .cons y v e, x => if y = x then some v else look e x
def En.dom : En → List Str
  | .nil => []
  | .cons y _ e => y :: En.dom e
def rixm : List Mf → Option Nat
  | [] => none
  | .rnd :: _ => some 0
  | _ :: fs => (rixm fs).map (· + 1)
inductive Mv where
  | val (v : Vl) | stuck (a : Int) | step (s : Sm) | move (s : Sm)
def Mv.d : Mv → D
  | .val v => .tup [.str "value", v.d]
  | .stuck a => .tup [.str "stuck", .int a]
  | .step s => .tup [.str "step", s.d]
  | .move s => .tup [.str "move", s.d]
def hadM (v : Vl) : Mf → List Mf → Mv
  | .caller a p e, fs => .move (.go p e (.given a v :: fs))
  | .adder a p e, fs => .move (.go p e (.added a v :: fs))
  | .given _ (.shut _ x b e), fs => .step (.go b (.cons x v e) fs)
  | .given _ (.kept _ gs), fs => .step (.have v (gs ++ .rnd :: fs))
  | .given a (.num _), _ => .stuck a
  | .added a w, fs => match w, v with
    | .num m, .num n => .step (.have (.num (m + n)) fs)
    | _, _ => .stuck a
  | .picker a p q e, fs => match v with
    | .num n => .step (.go (if n = 0 then p else q) e fs)
    | _ => .stuck a
  | .rnd, fs => .step (.have v fs)
def mv : Sm → Mv
  | .have v [] => .val v
  | .have v (f :: fs) => hadM v f fs
  | .go (.fn a x b) e fs => .step (.have (.shut a x b e) fs)
  | .go (.take a x b) e fs => match rixm fs with
    | none => .stuck a
    | some n => .step (.go b (.cons x (.kept a (fs.take n)) e) (fs.drop n))
  | .go (.num n) _ fs => .move (.have (.num n) fs)
  | .go (.name x) e fs => .move (.have ((look e x).getD (.num 0)) fs)
  | .go (.rnd b) e fs => .move (.go b e (.rnd :: fs))
  | .go (.pick a c f g) e fs => .move (.go c e (.picker a f g e :: fs))
  | .go (.call a f g) e fs => .move (.go f e (.caller a g e :: fs))
  | .go (.plus a f g) e fs => .move (.go f e (.adder a g e :: fs))
  | .go _ _ _ => .stuck 0
/-! ### putting in at once -/
abbrev Rho := List (Str × Pc)
def rem (x : Str) (r : Rho) : Rho := r.filter fun e => decide (e.1 ≠ x)
def lk : Rho → Str → Option Pc
  | [], _ => none
  | (y, v) :: r, x => if y = x then some v else lk r x
def psub : Rho → Pc → Pc
  | r, .name x => (lk r x).getD (.name x)
  | r, .fn a x b => .fn a x (psub (rem x r) b)
  | r, .take a x b => .take a x (psub (rem x r) b)
  | r, .call a f g => .call a (psub r f) (psub r g)
  | r, .plus a f g => .plus a (psub r f) (psub r g)
  | r, .pick a c f g => .pick a (psub r c) (psub r f) (psub r g)
  | r, .rnd b => .rnd (psub r b)
  | _, .num n => .num n
  | _, .shut a x b => .shut a x b
  | _, .kept a fs => .kept a fs
mutual
def Vl.sh : Vl → Pc
  | .num n => .num n
  | .shut a x b e => .shut a x (psub (rem x (En.sh e)) b)
  | .kept a fs => .kept a (Mf.shs fs)
def En.sh : En → Rho
  | .nil => []
  | .cons x v e => (x, v.sh) :: En.sh e
def Mf.sh : Mf → Fr
  | .caller a p e => .caller a (psub (En.sh e) p)
  | .given a v => .given a v.sh
  | .adder a p e => .adder a (psub (En.sh e) p)
  | .added a v => .added a v.sh
  | .picker a p q e => .picker a (psub (En.sh e) p) (psub (En.sh e) q)
  | .rnd => .rnd
def Mf.shs : List Mf → List Fr
  | [] => []
  | f :: fs => f.sh :: Mf.shs fs
end
/-- the running piece for which a state stands -/
def ul : Sm → Pc
  | .go p e fs => plug (Mf.shs fs) (psub e.sh p)
  | .have v fs => plug (Mf.shs fs) v.sh
theorem sh_isV (v : Vl) : v.sh.isV = true := by cases v <;> simp [Vl.sh, Pc.isV]
theorem lk_rem (x y : Str) : ∀ r : Rho, lk (rem x r) y = if y = x then none else lk r y
  | [] => by simp [rem, lk]
  | (z, v) :: r => by
    have ih := lk_rem x y r
    unfold rem at ih ⊢
    by_cases h : z = x
    · rw [List.filter_cons_of_neg (by simp [h])]
      rw [ih]
      subst h
      by_cases h2 : y = z
      · simp [h2]
      · have h3 : ¬ z = y := fun e => h2 e.symm
        simp [lk, h2, h3]
    · rw [List.filter_cons_of_pos (by simp [h])]
      by_cases h2 : z = y
      · subst h2
        simp [lk, h]
      · simp only [lk, h2, if_false]
        exact ih
theorem psub_ext : ∀ (p : Pc) (r r' : Rho), (∀ y, lk r y = lk r' y) → psub r p = psub r' p
  | .name x, r, r', h => by simp [psub, h x]
  | .fn a x b, r, r', h => by simp only [psub]; rw [psub_ext b (rem x r) (rem x r') fun y => by rw [lk_rem, lk_rem, h y]]
  | .take a x b, r, r', h => by simp only [psub]; rw [psub_ext b (rem x r) (rem x r') fun y => by rw [lk_rem, lk_rem, h y]]
  | .call a f g, r, r', h => by simp only [psub]; rw [psub_ext f r r' h, psub_ext g r r' h]
  | .plus a f g, r, r', h => by simp only [psub]; rw [psub_ext f r r' h, psub_ext g r r' h]
  | .pick a c f g, r, r', h => by simp only [psub]; rw [psub_ext c r r' h, psub_ext f r r' h, psub_ext g r r' h]
  | .rnd b, r, r', h => by simp only [psub]; rw [psub_ext b r r' h]
  | .num _, _, _, _ => rfl
  | .shut .., _, _, _ => rfl
  | .kept .., _, _, _ => rfl
/-- one more put in behind: as if it had stood in front -/
theorem put_psub (x : Str) (v : Pc) : ∀ (p : Pc) (r : Rho), (∀ y w, lk r y = some w → w.isV = true) → lk r x = none → put x v (psub r p) = psub ((x, v) :: r) p
  | .name y, r, hv, hx => by
    simp only [psub, lk]
    by_cases h : x = y
    · subst h; simp [hx, put]
    · have h' : ¬ y = x := fun e => h e.symm
      cases hl : lk r y with
      | none => simp [h, h', put]
      | some w =>
        have := hv y w hl
        simp only [h, if_false, Option.getD_some]
        cases w <;> simp [Pc.isV] at this <;> rfl
  | .fn a y b, r, hv, hx => by
    simp only [psub, put]
    by_cases h : y = x
    · subst h
      simp only [if_true]
      rw [psub_ext b (rem y ((y, v) :: r)) (rem y r) fun z => by
        rw [lk_rem, lk_rem]
        by_cases q : z = y
        · simp [q]
        · have q' : ¬ y = z := fun e => q e.symm
          simp [lk, q, q']]
    · rw [if_neg h]
      have := put_psub x v b (rem y r) (fun z w hz => by
        rw [lk_rem] at hz
        split at hz
        · cases hz
        · exact hv z w hz) (by rw [lk_rem, hx]; simp)
      rw [this, psub_ext b (rem y ((x, v) :: r)) ((x, v) :: rem y r) fun z => by
        rw [lk_rem]
        have hyx : ¬ x = y := fun e => h e.symm
        simp only [lk]
        rw [lk_rem]
        by_cases q : z = y
        · subst q
          simp [hyx]
        · simp [q]]
  | .take a y b, r, hv, hx => by
    simp only [psub, put]
    by_cases h : y = x
    · subst h
      simp only [if_true]
      rw [psub_ext b (rem y ((y, v) :: r)) (rem y r) fun z => by
        rw [lk_rem, lk_rem]
        by_cases q : z = y
        · simp [q]
        · have q' : ¬ y = z := fun e => q e.symm
          simp [lk, q, q']]
    · rw [if_neg h]
      have := put_psub x v b (rem y r) (fun z w hz => by
        rw [lk_rem] at hz
        split at hz
        · cases hz
        · exact hv z w hz) (by rw [lk_rem, hx]; simp)
      rw [this, psub_ext b (rem y ((x, v) :: r)) ((x, v) :: rem y r) fun z => by
        rw [lk_rem]
        have hyx : ¬ x = y := fun e => h e.symm
        simp only [lk]
        rw [lk_rem]
        by_cases q : z = y
        · subst q
          simp [hyx]
        · simp [q]]
  | .call a f g, r, hv, hx => by simp only [psub, put, put_psub x v f r hv hx, put_psub x v g r hv hx]
  | .plus a f g, r, hv, hx => by simp only [psub, put, put_psub x v f r hv hx, put_psub x v g r hv hx]
  | .pick a c f g, r, hv, hx => by simp only [psub, put, put_psub x v c r hv hx, put_psub x v f r hv hx, put_psub x v g r hv hx]
  | .rnd b, r, hv, hx => by simp only [psub, put, put_psub x v b r hv hx]
  | .num _, _, _, _ => rfl
  | .shut .., _, _, _ => rfl
  | .kept .., _, _, _ => rfl
end Cb
namespace Cb
open PySem PySem.Spec PyProof.Rows L2
/-! ## the machine goes along with the steps -/
/-- what is said of code, with the names about it: it goes on to the parts -/
structure QC (Q : List Str → Pc → Prop) : Prop where
  name : ∀ {sc x}, Q sc (.name x) → x ∈ sc
  fn : ∀ {sc a x b}, Q sc (.fn a x b) → nmOk x ∧ Q (x :: sc) b
  take : ∀ {sc a x b}, Q sc (.take a x b) → nmOk x ∧ Q (x :: sc) b
  rnd : ∀ {sc b}, Q sc (.rnd b) → Q sc b
  call : ∀ {sc a f g}, Q sc (.call a f g) → Q sc f ∧ Q sc g
  plus : ∀ {sc a f g}, Q sc (.plus a f g) → Q sc f ∧ Q sc g
  pick : ∀ {sc a c f g}, Q sc (.pick a c f g) → Q sc c ∧ Q sc f ∧ Q sc g
  shut : ∀ {sc a x b}, ¬ Q sc (.shut a x b)
  kept : ∀ {sc a fs}, ¬ Q sc (.kept a fs)
section
variable (Q : List Str → Pc → Prop)
mutual
def Vl.ok : Vl → Prop
  | .num _ => True
  | .shut _ x b e => (nmOk x ∧ Q (x :: e.dom) b) ∧ En.ok e
  | .kept _ fs => Mf.oks fs
def En.ok : En → Prop
  | .nil => True
  | .cons x v e => (nmOk x ∧ Vl.ok v) ∧ En.ok e
def Mf.ok : Mf → Prop
  | .caller _ p e => Q e.dom p ∧ En.ok e
  | .given _ v => Vl.ok v
  | .adder _ p e => Q e.dom p ∧ En.ok e
  | .added _ v => Vl.ok v
  | .picker _ p q e => (Q e.dom p ∧ Q e.dom q) ∧ En.ok e
  | .rnd => True
def Mf.oks : List Mf → Prop
  | [] => True
  | f :: fs => Mf.ok f ∧ Mf.oks fs
end
def Sm.ok : Sm → Prop
  | .go p e fs => Q e.dom p ∧ e.ok Q ∧ Mf.oks Q fs
  | .have v fs => v.ok Q ∧ Mf.oks Q fs
end
variable {Q : List Str → Pc → Prop}
theorem oks_app : ∀ (fs gs : List Mf), Mf.oks Q (fs ++ gs) ↔ Mf.oks Q fs ∧ Mf.oks Q gs
  | [], gs => by simp [Mf.oks]
  | f :: fs, gs => by simp [Mf.oks, oks_app fs gs, and_assoc]
theorem oks_take : ∀ (n : Nat) (fs : List Mf), Mf.oks Q fs → Mf.oks Q (fs.take n)
  | 0, _, _ => by simp [Mf.oks]
  | _ + 1, [], _ => by simp [Mf.oks]
  | n + 1, f :: fs, h => ⟨h.1, oks_take n fs h.2⟩
theorem oks_drop : ∀ (n : Nat) (fs : List Mf), Mf.oks Q fs → Mf.oks Q (fs.drop n)
  | 0, _, h => h
  | _ + 1, [], _ => by simp [Mf.oks]
  | n + 1, f :: fs, h => oks_drop n fs h.2
theorem shs_app : ∀ (fs gs : List Mf), Mf.shs (fs ++ gs) = Mf.shs fs ++ Mf.shs gs
  | [], _ => rfl
  | f :: fs, gs => by simp [Mf.shs, shs_app fs gs]
theorem shs_take : ∀ (n : Nat) (fs : List Mf), Mf.shs (fs.take n) = (Mf.shs fs).take n
  | 0, _ => by simp [Mf.shs]
  | _ + 1, [] => by simp [Mf.shs]
  | n + 1, f :: fs => by simp [Mf.shs, shs_take n fs]
theorem shs_drop : ∀ (n : Nat) (fs : List Mf), Mf.shs (fs.drop n) = (Mf.shs fs).drop n
  | 0, _ => by simp
  | _ + 1, [] => by simp [Mf.shs]
  | n + 1, f :: fs => by simp [Mf.shs, shs_drop n fs]
theorem rixm_sh : ∀ fs : List Mf, rix (Mf.shs fs) = rixm fs
  | [] => rfl
  | f :: fs => by cases f <;> simp [Mf.shs, Mf.sh, rix, rixm, rixm_sh fs]
theorem lk_sh (x : Str) : ∀ e : En, lk e.sh x = (look e x).map Vl.sh
  | .nil => rfl
  | .cons y v e => by
    simp only [En.sh, lk, look, lk_sh x e]
    split <;> rfl
theorem look_dom {x : Str} : ∀ {e : En}, e.ok Q → x ∈ e.dom → ∃ v, look e x = some v ∧ v.ok Q
  | .nil, _, h => by simp [En.dom] at h
  | .cons y v e, ho, h => by
    simp only [look]
    by_cases q : y = x
    · exact ⟨v, by simp [q], ho.1.2⟩
    · rw [if_neg q]
      rcases List.mem_cons.mp h with z | z
      · exact absurd z.symm q
      · exact look_dom ho.2 z
theorem sh_vals (e : En) : ∀ y w, lk e.sh y = some w → w.isV = true := by
  intro y w h
  rw [lk_sh] at h
  obtain ⟨v, _, rfl⟩ := Option.map_eq_some_iff.mp h
  exact sh_isV v
/-- a frame as stepping goes down by it -/
def prop : Fr → Prop
  | .given _ v => v.isV = true
  | .added _ v => v.isV = true
  | _ => True
theorem prop_sh (f : Mf) : prop f.sh := by cases f <;> simp [Mf.sh, prop, sh_isV]
theorem prop_shs : ∀ fs : List Mf, ∀ f ∈ Mf.shs fs, prop f
  | [], f, h => by simp [Mf.shs] at h
  | g :: fs, f, h => by
    rcases List.mem_cons.mp h with q | q
    · rw [q]; exact prop_sh g
    · exact prop_shs fs f q
theorem w_frs {f : Fr} {q : Pc} (h : prop f) (hq : q.isV = false) : frs (f.w q) = f :: frs q ∧ hd (f.w q) = hd q ∧ (f.w q).isV = false := by
  cases f <;> simp_all [Fr.w, frs, hd, prop, Pc.isV]
theorem plug_down : ∀ (F : List Fr) (q : Pc), (∀ f ∈ F, prop f) → q.isV = false → frs (plug F q) = F.reverse ++ frs q ∧ hd (plug F q) = hd q ∧ (plug F q).isV = false
  | [], q, _, hq => by simp [plug, hq]
  | f :: F, q, h, hq => by
    obtain ⟨a, b, c⟩ := w_frs (h f List.mem_cons_self) hq
    obtain ⟨a', b', c'⟩ := plug_down F (f.w q) (fun g hg => h g (List.mem_cons_of_mem _ hg)) c
    simp only [plug]
    rw [a', b', a, b]
    simp [c']
theorem step_plug {F : List Fr} {q : Pc} (h : ∀ f ∈ F, prop f) (hq : q.isV = false) (hi : inn q = none) : step (plug F q) = stepH F q := by
  obtain ⟨a, b, c⟩ := plug_down F q h hq
  unfold step
  rw [c, a, b, (inn_none hi).1, (inn_none hi).2]
  simp
def mvOk (Q : List Str → Pc → Prop) (s : Sm) : Mv → Prop
  | .move s' => ul s' = ul s ∧ s'.ok Q
  | .step s' => step (ul s) = .step (ul s') ∧ s'.ok Q
  | .stuck a => step (ul s) = .stuck a
  | .val v => ul s = v.sh
theorem isV_n {n : Int} : (Pc.num n).isV = true := rfl
theorem isV_s {a : Int} {x : Str} {b : Pc} : (Pc.shut a x b).isV = true := rfl
theorem isV_k {a : Int} {fs : List Fr} : (Pc.kept a fs).isV = true := rfl
theorem sim_have (v : Vl) (f : Mf) (fs : List Mf) (hv : v.ok Q) (hf : f.ok Q) (hs : Mf.oks Q fs) : mvOk Q (.have v (f :: fs)) (hadM v f fs) := by
  have pr := prop_shs fs
  have vv := sh_isV v
  cases f with
  | caller a p e => exact ⟨rfl, hf.1, hf.2, hv, hs⟩
  | adder a p e => exact ⟨rfl, hf.1, hf.2, hv, hs⟩
  | rnd =>
    refine ⟨?_, hv, hs⟩
    simp only [ul, Mf.shs, Mf.sh, plug, Fr.w]
    rw [step_plug pr rfl (by simp [inn, vv])]
    rfl
  | given a w =>
    cases w with
    | num n =>
      simp only [hadM, mvOk, ul, Mf.shs, Mf.sh, plug, Fr.w, Vl.sh]
      rw [step_plug pr rfl (by simp [inn, vv, isV_n, isV_s, isV_k])]
      rfl
    | shut c x b e =>
      refine ⟨?_, hf.1.2, ⟨⟨hf.1.1, hv⟩, hf.2⟩, hs⟩
      simp only [ul, Mf.shs, Mf.sh, plug, Fr.w, Vl.sh]
      rw [step_plug pr rfl (by simp [inn, vv, isV_n, isV_s, isV_k])]
      simp only [stepH, becomes, En.sh]
      have hr : lk (rem x e.sh) x = none := by rw [lk_rem]; simp
      rw [put_psub x v.sh b (rem x e.sh) (fun y w hy => by
        rw [lk_rem] at hy
        split at hy
        · cases hy
        · exact sh_vals e y w hy) hr]
      rw [psub_ext b ((x, v.sh) :: rem x e.sh) ((x, v.sh) :: e.sh) fun y => by
        simp only [lk]
        rw [lk_rem]
        by_cases q : x = y
        · simp [q]
        · have q' : ¬ y = x := fun e => q e.symm
          simp [q, q']]
    | kept c gs =>
      refine ⟨?_, hv, (oks_app _ _).mpr ⟨hf, trivial, hs⟩⟩
      simp only [ul, Mf.shs, Mf.sh, plug, Fr.w, Vl.sh]
      rw [step_plug pr rfl (by simp [inn, vv, isV_n, isV_s, isV_k])]
      simp only [stepH, becomes]
      rw [shs_app, plug_app]
      rfl
  | added a w =>
    have wv := sh_isV w
    cases w with
    | num m =>
      cases v with
      | num n =>
        refine ⟨?_, trivial, hs⟩
        simp only [ul, Mf.shs, Mf.sh, plug, Fr.w, Vl.sh]
        rw [step_plug pr rfl (by simp [inn, Pc.isV])]
        rfl
      | _ =>
        simp only [hadM, mvOk, ul, Mf.shs, Mf.sh, plug, Fr.w, Vl.sh]
        rw [step_plug pr rfl (by simp [inn, Pc.isV])]
        rfl
    | _ =>
      simp only [hadM, mvOk, ul, Mf.shs, Mf.sh, plug, Fr.w, Vl.sh]
      rw [step_plug pr rfl (by simp [inn, vv, isV_n, isV_s, isV_k])]
      rfl
  | picker a p q e =>
    cases v with
    | num n =>
      refine ⟨?_, ?_, hf.2, hs⟩
      · simp only [ul, Mf.shs, Mf.sh, plug, Fr.w, Vl.sh]
        rw [step_plug pr rfl (by simp [inn, Pc.isV])]
        simp only [stepH, becomes]
        by_cases z : n = 0 <;> simp [z]
      · by_cases z : n = 0
        · simp only [z, if_true]; exact hf.1.1
        · simp only [z, if_false]; exact hf.1.2
    | _ =>
      simp only [hadM, mvOk, ul, Mf.shs, Mf.sh, plug, Fr.w, Vl.sh]
      rw [step_plug pr rfl (by simp [inn, Pc.isV])]
      rfl
theorem sim (hQ : QC Q) (s : Sm) (h : s.ok Q) : mvOk Q s (mv s) := by
  cases s with
  | «have» v fs =>
    cases fs with
    | nil => exact rfl
    | cons f fs => exact sim_have v f fs h.1 h.2.1 h.2.2
  | go p e fs =>
    obtain ⟨hc, he, hs⟩ := h
    have pr := prop_shs fs
    cases p with
    | num n => exact ⟨rfl, trivial, hs⟩
    | name x =>
      obtain ⟨v, h1, h2⟩ := look_dom he (hQ.name hc)
      refine ⟨?_, ?_, hs⟩
      · simp only [ul, psub, lk_sh, h1]; rfl
      · rw [h1]; exact h2
    | rnd b => exact ⟨rfl, hQ.rnd hc, he, trivial, hs⟩
    | pick a c f g => have q := hQ.pick hc; exact ⟨rfl, q.1, he, ⟨⟨q.2.1, q.2.2⟩, he⟩, hs⟩
    | call a f g => have q := hQ.call hc; exact ⟨rfl, q.1, he, ⟨q.2, he⟩, hs⟩
    | plus a f g => have q := hQ.plus hc; exact ⟨rfl, q.1, he, ⟨q.2, he⟩, hs⟩
    | fn a x b =>
      refine ⟨?_, ⟨hQ.fn hc, he⟩, hs⟩
      simp only [ul, psub, Vl.sh]
      rw [step_plug pr rfl (by simp [inn])]
      rfl
    | take a x b =>
      simp only [mv]
      have hst : step (ul (.go (.take a x b) e fs)) = stepH (Mf.shs fs) (.take a x (psub (rem x e.sh) b)) := by
        simp only [ul, psub]
        rw [step_plug pr rfl (by simp [inn])]
      cases hr : rixm fs with
      | none =>
        show step _ = _
        rw [hst]
        simp only [stepH, rixm_sh, hr]
      | some n =>
        refine ⟨?_, (hQ.take hc).2, ⟨⟨(hQ.take hc).1, oks_take n fs hs⟩, he⟩, oks_drop n fs hs⟩
        rw [hst]
        simp only [stepH, rixm_sh, hr, ul, En.sh, shs_drop, Vl.sh, shs_take]
        have hr : lk (rem x e.sh) x = none := by rw [lk_rem]; simp
        rw [put_psub x _ b (rem x e.sh) (fun y w hy => by
          rw [lk_rem] at hy
          split at hy
          · cases hy
          · exact sh_vals e y w hy) hr]
        rw [psub_ext b ((x, Pc.kept a ((Mf.shs fs).take n)) :: rem x e.sh) ((x, Pc.kept a ((Mf.shs fs).take n)) :: e.sh) fun y => by
          simp only [lk]
          rw [lk_rem]
          by_cases q : x = y
          · simp [q]
          · have q' : ¬ y = x := fun e => q e.symm
            simp [q, q']]
    | shut a x b => exact (hQ.shut hc).elim
    | kept a fs => exact (hQ.kept hc).elim
end Cb
namespace Cb
open PySem PySem.Spec PyProof.Rows L2
/-! ## how many moves stand between two steps -/
def leaf : Pc → Bool
  | .num _ => true
  | .name _ => true
  | _ => false
def rm : Pc → Nat
  | .num _ => 1
  | .name _ => 1
  | .rnd b => 1 + rm b
  | .pick _ c _ _ => 1 + rm c
  | .call _ f g => 1 + (if leaf f = true then 2 + rm g else rm f)
  | .plus _ f g => 1 + (if leaf f = true then 2 + rm g else rm f)
  | _ => 0
def ht : List Mf → Nat
  | .caller _ p _ :: _ => 1 + rm p
  | .adder _ p _ :: _ => 1 + rm p
  | _ => 0
def mu : Sm → Nat
  | .go p _ fs => if leaf p = true then 1 + ht fs else rm p
  | .have _ fs => ht fs
theorem rm_leaf {p : Pc} (h : leaf p = true) : rm p = 1 := by cases p <;> simp_all [leaf, rm]
theorem rm_cd : ∀ p : Pc, rm p ≤ 3 * cd p
  | .num _ => by simp [rm, cd]
  | .name _ => by simp [rm, cd]
  | .rnd b => by have := rm_cd b; simp only [rm, cd]; omega
  | .pick _ c f g => by have := rm_cd c; simp only [rm, cd]; omega
  | .call _ f g => by have := rm_cd f; have := rm_cd g; simp only [rm, cd]; split <;> omega
  | .plus _ f g => by have := rm_cd f; have := rm_cd g; simp only [rm, cd]; split <;> omega
  | .fn .. => by simp [rm]
  | .take .. => by simp [rm]
  | .shut .. => by simp [rm]
  | .kept .. => by simp [rm]
theorem move_mu {s s' : Sm} (h : mv s = .move s') : mu s' < mu s := by
  cases s with
  | «have» v fs =>
    cases fs with
    | nil => cases h
    | cons f fs =>
      cases f with
      | caller a p e =>
        cases h
        simp only [mu, ht]
        split
        · rename_i q; rw [rm_leaf q]; omega
        · omega
      | adder a p e =>
        cases h
        simp only [mu, ht]
        split
        · rename_i q; rw [rm_leaf q]; omega
        · omega
      | given a w => cases w <;> cases h
      | added a w => cases w <;> cases v <;> cases h
      | picker a p q e => cases v <;> cases h
      | rnd => cases h
  | go p e fs =>
    cases p with
    | num n => cases h; simp [mu, leaf]
    | name x => cases h; simp [mu, leaf]
    | rnd b =>
      cases h
      show (if leaf b = true then 1 + 0 else rm b) < 1 + rm b
      split
      · rename_i q; rw [rm_leaf q]; omega
      · omega
    | pick a c f g =>
      cases h
      show (if leaf c = true then 1 + 0 else rm c) < 1 + rm c
      split
      · rename_i q; rw [rm_leaf q]; omega
      · omega
    | call a f g =>
      cases h
      show (if leaf f = true then 1 + (1 + rm g) else rm f) < 1 + (if leaf f = true then 2 + rm g else rm f)
      split <;> omega
    | plus a f g =>
      cases h
      show (if leaf f = true then 1 + (1 + rm g) else rm f) < 1 + (if leaf f = true then 2 + rm g else rm f)
      split <;> omega
    | fn a x b => cases h
    | take a x b => simp only [mv] at h; split at h <;> cases h
    | shut a x b => cases h
    | kept a fs => cases h
end Cb
namespace Cb
open PySem PySem.Spec PyProof.Rows L2
/-! ## how deep values stand in values -/
mutual
def Vl.sd : Vl → Nat
  | .num _ => 1
  | .shut _ _ _ e => 2 + En.sd e
  | .kept _ fs => 2 + Mf.sds fs
def En.sd : En → Nat
  | .nil => 0
  | .cons _ v e => max (Vl.sd v) (En.sd e)
def Mf.sd : Mf → Nat
  | .caller _ _ e => 2 + En.sd e
  | .given _ v => 1 + Vl.sd v
  | .adder _ _ e => 2 + En.sd e
  | .added _ v => 1 + Vl.sd v
  | .picker _ _ _ e => 2 + En.sd e
  | .rnd => 1
def Mf.sds : List Mf → Nat
  | [] => 0
  | f :: fs => max (Mf.sd f) (Mf.sds fs)
end
def Mf.bd (n : Nat) : Mf → Prop
  | .caller _ _ e => En.sd e ≤ 5 * n
  | .given _ v => Vl.sd v ≤ 5 * n + 2
  | .adder _ _ e => En.sd e ≤ 5 * n
  | .added _ v => Vl.sd v ≤ 5 * n + 2
  | .picker _ _ _ e => En.sd e ≤ 5 * n
  | .rnd => True
def Mf.bds (n : Nat) (fs : List Mf) : Prop := ∀ f ∈ fs, f.bd n
def Sm.bd (n : Nat) : Sm → Prop
  | .go _ e fs => En.sd e ≤ 5 * n ∧ Mf.bds n fs
  | .have v fs => Vl.sd v ≤ 5 * n + 2 ∧ Mf.bds n fs
theorem Mf.bd_mono {n m : Nat} (h : n ≤ m) {f : Mf} (b : f.bd n) : f.bd m := by cases f <;> simp only [Mf.bd] at b ⊢ <;> omega
theorem Mf.bds_mono {n m : Nat} (h : n ≤ m) {fs : List Mf} (b : Mf.bds n fs) : Mf.bds m fs := fun f hf => Mf.bd_mono h (b f hf)
theorem Mf.bds_sds {n : Nat} : ∀ {fs : List Mf}, Mf.bds n fs → Mf.sds fs ≤ 5 * n + 3
  | [], _ => by simp [Mf.sds]
  | f :: fs, b => by
    have i := Mf.bds_sds (fs := fs) fun g hg => b g (List.mem_cons_of_mem _ hg)
    have j := b f List.mem_cons_self
    simp only [Mf.sds]
    cases f <;> simp only [Mf.sd, Mf.bd] at j ⊢ <;> omega
theorem Mf.sds_bds {n : Nat} : ∀ {fs : List Mf}, Mf.sds fs ≤ 5 * n → Mf.bds n fs
  | [], _, f, hf => by simp at hf
  | g :: fs, h, f, hf => by
    simp only [Mf.sds] at h
    rcases List.mem_cons.mp hf with q | q
    · subst q
      cases f <;> simp only [Mf.sd, Mf.bd] at h ⊢ <;> omega
    · exact Mf.sds_bds (fs := fs) (by omega) f q
theorem bds_cons {n : Nat} {f : Mf} {fs : List Mf} (h : f.bd n) (hs : Mf.bds n fs) : Mf.bds n (f :: fs) := fun g hg => by
  rcases List.mem_cons.mp hg with q | q
  · rw [q]; exact h
  · exact hs g q
theorem look_sd {x : Str} : ∀ {e : En} {v : Vl}, look e x = some v → v.sd ≤ e.sd
  | .nil, _, h => by simp [look] at h
  | .cons y w e, v, h => by
    simp only [look] at h
    simp only [En.sd]
    split at h
    · cases h; omega
    · have := look_sd h; omega
theorem getD_sd (x : Str) (e : En) (n : Nat) (h : e.sd ≤ 5 * n) : ((look e x).getD (.num 0)).sd ≤ 5 * n + 2 := by
  cases hl : look e x with
  | none => simp [Vl.sd]
  | some v => have := look_sd hl; simp; omega
/-- moves keep the bound, steps raise it -/
theorem mv_bd {n : Nat} {s : Sm} (h : s.bd n) : (∀ s', mv s = .move s' → s'.bd n) ∧ ∀ s', mv s = .step s' → s'.bd (n + 1) := by
  have up : ∀ {fs : List Mf}, Mf.bds n fs → Mf.bds (n + 1) fs := fun b => Mf.bds_mono (by omega) b
  cases s with
  | «have» v fs =>
    cases fs with
    | nil => exact ⟨fun s' q => (by cases q), fun s' q => (by cases q)⟩
    | cons f fs =>
      obtain ⟨h1, h2⟩ := h
      have hf := h2 f List.mem_cons_self
      have hs : Mf.bds n fs := fun g hg => h2 g (List.mem_cons_of_mem _ hg)
      cases f with
      | caller a p e => exact ⟨fun s' q => (by cases q; exact ⟨hf, bds_cons h1 hs⟩), fun s' q => (by cases q)⟩
      | adder a p e => exact ⟨fun s' q => (by cases q; exact ⟨hf, bds_cons h1 hs⟩), fun s' q => (by cases q)⟩
      | rnd => exact ⟨fun s' q => (by cases q), fun s' q => (by cases q; exact ⟨by omega, up hs⟩)⟩
      | given a w =>
        cases w with
        | num n => exact ⟨fun s' q => (by cases q), fun s' q => (by cases q)⟩
        | shut c x b e =>
          refine ⟨fun s' q => (by cases q), fun s' q => ?_⟩
          cases q
          simp only [Mf.bd, Vl.sd] at hf
          refine ⟨?_, up hs⟩
          simp only [En.sd]
          omega
        | kept c gs =>
          refine ⟨fun s' q => (by cases q), fun s' q => ?_⟩
          cases q
          simp only [Mf.bd, Vl.sd] at hf
          refine ⟨by omega, fun g hg => ?_⟩
          rcases List.mem_append.mp hg with z | z
          · exact Mf.bd_mono (by omega) (Mf.sds_bds (n := n) (fs := gs) (by omega) g z)
          · rcases List.mem_cons.mp z with z | z
            · subst z; trivial
            · exact up hs g z
      | added a w =>
        refine ⟨fun s' q => ?_, fun s' q => ?_⟩
        · cases w <;> cases v <;> cases q
        · cases w <;> cases v <;> cases q
          exact ⟨by simp [Vl.sd], up hs⟩
      | picker a p r e =>
        refine ⟨fun s' q => ?_, fun s' q => ?_⟩
        · cases v <;> cases q
        · cases v <;> cases q
          simp only [Mf.bd] at hf
          exact ⟨by omega, up hs⟩
  | go p e fs =>
    obtain ⟨he, hs⟩ := h
    cases p with
    | num m => exact ⟨fun s' q => (by cases q; exact ⟨by simp [Vl.sd], hs⟩), fun s' q => (by cases q)⟩
    | name x => exact ⟨fun s' q => (by cases q; exact ⟨getD_sd x e n he, hs⟩), fun s' q => (by cases q)⟩
    | rnd b => exact ⟨fun s' q => (by cases q; exact ⟨he, bds_cons trivial hs⟩), fun s' q => (by cases q)⟩
    | pick a c f g => exact ⟨fun s' q => (by cases q; exact ⟨he, bds_cons he hs⟩), fun s' q => (by cases q)⟩
    | call a f g => exact ⟨fun s' q => (by cases q; exact ⟨he, bds_cons he hs⟩), fun s' q => (by cases q)⟩
    | plus a f g => exact ⟨fun s' q => (by cases q; exact ⟨he, bds_cons he hs⟩), fun s' q => (by cases q)⟩
    | fn a x b => exact ⟨fun s' q => (by cases q), fun s' q => (by cases q; exact ⟨by simp only [Vl.sd]; omega, up hs⟩)⟩
    | take a x b =>
      simp only [mv]
      cases hr : rixm fs with
      | none => exact ⟨fun s' q => (by cases q), fun s' q => (by cases q)⟩
      | some m =>
        refine ⟨fun s' q => (by cases q), fun s' q => ?_⟩
        cases q
        have : Mf.sds (fs.take m) ≤ 5 * n + 3 := Mf.bds_sds fun f hf => hs f (List.mem_of_mem_take hf)
        refine ⟨?_, fun f hf => up hs f (List.mem_of_mem_drop hf)⟩
        simp only [En.sd, Vl.sd]
        omega
    | shut a x b => exact ⟨fun s' q => (by cases q), fun s' q => (by cases q)⟩
    | kept a fs => exact ⟨fun s' q => (by cases q), fun s' q => (by cases q)⟩
/-! ## putting all in, one behind the other -/
def fr (y : Str) : Pc → Prop
  | .name x => y = x
  | .fn _ x b => y ≠ x ∧ fr y b
  | .take _ x b => y ≠ x ∧ fr y b
  | .rnd b => fr y b
  | .call _ f g => fr y f ∨ fr y g
  | .plus _ f g => fr y f ∨ fr y g
  | .pick _ c f g => fr y c ∨ fr y f ∨ fr y g
  | _ => False
theorem psub_fr : ∀ (p : Pc) (r r' : Rho), (∀ y, fr y p → lk r y = lk r' y) → psub r p = psub r' p
  | .name x, r, r', h => by simp [psub, h x rfl]
  | .fn a x b, r, r', h => by
    simp only [psub]
    rw [psub_fr b (rem x r) (rem x r') fun y hy => by
      rw [lk_rem, lk_rem]
      by_cases q : y = x
      · simp [q]
      · simp [q, h y ⟨q, hy⟩]]
  | .take a x b, r, r', h => by
    simp only [psub]
    rw [psub_fr b (rem x r) (rem x r') fun y hy => by
      rw [lk_rem, lk_rem]
      by_cases q : y = x
      · simp [q]
      · simp [q, h y ⟨q, hy⟩]]
  | .call a f g, r, r', h => by simp only [psub]; rw [psub_fr f r r' fun y hy => h y (.inl hy), psub_fr g r r' fun y hy => h y (.inr hy)]
  | .plus a f g, r, r', h => by simp only [psub]; rw [psub_fr f r r' fun y hy => h y (.inl hy), psub_fr g r r' fun y hy => h y (.inr hy)]
  | .pick a c f g, r, r', h => by simp only [psub]; rw [psub_fr c r r' fun y hy => h y (.inl hy), psub_fr f r r' fun y hy => h y (.inr (.inl hy)), psub_fr g r r' fun y hy => h y (.inr (.inr hy))]
  | .rnd b, r, r', h => by simp only [psub]; rw [psub_fr b r r' h]
  | .num _, _, _, _ => rfl
  | .shut .., _, _, _ => rfl
  | .kept .., _, _, _ => rfl
theorem psub_nil : ∀ p : Pc, psub [] p = p
  | .name x => by simp [psub, lk]
  | .fn a x b => by simp [psub, rem, psub_nil b]
  | .take a x b => by simp [psub, rem, psub_nil b]
  | .call a f g => by simp [psub, psub_nil f, psub_nil g]
  | .plus a f g => by simp [psub, psub_nil f, psub_nil g]
  | .pick a c f g => by simp [psub, psub_nil c, psub_nil f, psub_nil g]
  | .rnd b => by simp [psub, psub_nil b]
  | .num _ => rfl
  | .shut .. => rfl
  | .kept .. => rfl
theorem psub_cd : ∀ (p : Pc) (r : Rho), (∀ y w, lk r y = some w → w.isV = true) → cd (psub r p) = cd p
  | .name x, r, h => by
    simp only [psub]
    cases q : lk r x with
    | none => rfl
    | some w => have := isV_num (h x w q); simp [this.2.2, cd]
  | .fn a x b, r, h => by
    simp only [psub, cd]
    rw [psub_cd b _ fun y w hy => by
      rw [lk_rem] at hy
      split at hy
      · cases hy
      · exact h y w hy]
  | .take a x b, r, h => by
    simp only [psub, cd]
    rw [psub_cd b _ fun y w hy => by
      rw [lk_rem] at hy
      split at hy
      · cases hy
      · exact h y w hy]
  | .call a f g, r, h => by simp only [psub, cd]; rw [psub_cd f r h, psub_cd g r h]
  | .plus a f g, r, h => by simp only [psub, cd]; rw [psub_cd f r h, psub_cd g r h]
  | .pick a c f g, r, h => by simp only [psub, cd]; rw [psub_cd c r h, psub_cd f r h, psub_cd g r h]
  | .rnd b, r, h => by simp only [psub, cd]; rw [psub_cd b r h]
  | .num _, _, _ => rfl
  | .shut .., _, _ => rfl
  | .kept .., _, _ => rfl
/-- the names ns of r, one behind the other -/
def picks (r : Rho) : List Str → Rho
  | [] => []
  | x :: ns => (match lk r x with | some v => [(x, v)] | none => []) ++ picks r ns
theorem lk_app : ∀ (r s : Rho) (y : Str), lk (r ++ s) y = (lk r y).or (lk s y)
  | [], s, y => by simp [lk]
  | (x, v) :: r, s, y => by
    simp only [List.cons_append, lk]
    split
    · rfl
    · exact lk_app r s y
theorem lk_picks (r : Rho) (y : Str) : ∀ ns : List Str, lk (picks r ns) y = if y ∈ ns then lk r y else none
  | [] => by simp [picks, lk]
  | x :: ns => by
    simp only [picks]
    rw [lk_app, lk_picks r y ns]
    by_cases h : y = x
    · subst h
      cases q : lk r y with
      | none => simp [lk]
      | some v => simp [lk]
    · have h' : ¬ x = y := fun e => h e.symm
      cases q : lk r x with
      | none => simp [lk, h]
      | some v => simp [lk, h, h']
/-! ## what states follow -/
def run : Nat → Nat → Sm → List Sm
  | 0, _, _ => []
  | t + 1, n, s => match mv s with
    | .move s' => s' :: run t n s'
    | .step s' => match n with
      | 0 => []
      | n + 1 => s' :: run t n s'
    | _ => []
/-- the state at which it ends -/
def rlast : Nat → Nat → Sm → Sm
  | 0, _, s => s
  | t + 1, n, s => match mv s with
    | .move s' => rlast t n s'
    | .step s' => match n with
      | 0 => s
      | n + 1 => rlast t n s'
    | _ => s
end Cb
namespace Cb
open PySem PySem.Spec PyProof.Rows L2
inductive Nm where
  | is_whole | is_name | is_mark | is_number | shape_of | is_leaf_part | knots_if | is_piece | note_free | free_names | is_closed | _law_cell_at | _law_mixed | _law_name_by | _law_mark_by | _law_leaf | _law_gone_on | _law_made | _law_free | _law_places | _law_changed | _law_told | _law_great
abbrev Fns := Nm → Fn
abbrev b_is_whole (F : Fns) : B :=
  (sRet (eAnd (eIsi "int" (eVar 0)) (eNot (eIsi "bool" (eVar 0)))))
abbrev b_is_name (F : Fns) : B :=
  (sSeq (sIf (tfOr (tfNot (tOf (eIsi "str" (eVar 0)))) (tfNot (tOf (eChain (dCmp fun i j => decide (i ≤ j)) (dCmp fun i j => decide (i ≤ j)) (eC (.int 1)) (eBi bLen (aCons (eVar 0) aNil)) (eC (.int 8)))))) (sRet (eC (.bl false))) sNext)
  (sSeq (sFor (iStrD (eVar 0)) (gdName 1) (sIf (tOf (eOp dNotSign (eVar 1) (eC (.str "abcdefghijklmnopqrstuvwxyz")))) (sRet (eC (.bl false))) sNext))
  (sRet (eC (.bl true)))))
abbrev b_is_mark (F : Fns) : B :=
  (sRet (eAnd (eCall 1 (F .is_whole) (aCons (eVar 0) aNil)) (eChain (dCmp fun i j => decide (i ≤ j)) (dCmp fun i j => decide (i ≤ j)) (eC (.int 0)) (eVar 0) (eC (.int 9999)))))
abbrev b_is_number (F : Fns) : B :=
  (sRet (eAnd (eCall 1 (F .is_whole) (aCons (eVar 0) aNil)) (eChain (dCmp fun i j => decide (i < j)) (dCmp fun i j => decide (i < j)) (eNeg (eC (.int 1000000000000))) (eVar 0) (eC (.int 1000000000000)))))
abbrev b_shape_of (F : Fns) : B :=
  (sSeq (sIf (tOf (eOp (dEq 64) (eVar 0) (eC (.str "num")))) (sRet (eC (.str "n"))) sNext)
  (sSeq (sIf (tOf (eOp (dEq 64) (eVar 0) (eC (.str "name")))) (sRet (eC (.str "w"))) sNext)
  (sSeq (sIf (tfOr (tOf (eOp (dEq 64) (eVar 0) (eC (.str "fun")))) (tOf (eOp (dEq 64) (eVar 0) (eC (.str "take"))))) (sRet (eC (.str "mwp"))) sNext)
  (sSeq (sIf (tfOr (tOf (eOp (dEq 64) (eVar 0) (eC (.str "call")))) (tOf (eOp (dEq 64) (eVar 0) (eC (.str "plus"))))) (sRet (eC (.str "mpp"))) sNext)
  (sSeq (sIf (tOf (eOp (dEq 64) (eVar 0) (eC (.str "pick")))) (sRet (eC (.str "mppp"))) sNext)
  (sSeq (sIf (tOf (eOp (dEq 64) (eVar 0) (eC (.str "round")))) (sRet (eC (.str "p"))) sNext)
  (sRet (eC .non))))))))
abbrev b_is_leaf_part (F : Fns) : B :=
  (sSeq (sIf (tOf (eOp (dEq 64) (eVar 0) (eC (.str "n")))) (sRet (eCall 1 (F .is_number) (aCons (eVar 1) aNil))) sNext)
  (sSeq (sIf (tOf (eOp (dEq 64) (eVar 0) (eC (.str "w")))) (sRet (eCall 1 (F .is_name) (aCons (eVar 1) aNil))) sNext)
  (sRet (eCall 1 (F .is_mark) (aCons (eVar 1) aNil)))))
def b_knots_if_t5 (F : Fns) : B :=
  (sRet (eVar 3))
def b_knots_if_t4 (F : Fns) : B :=
  (sSeq (sFor (iZipS (eVar 2) (eSlice (eVar 0) (ptS (eC (.int 1))) ptN)) (gdTup 2 (gsCons (gdName 4) (gsCons (gdName 5) gsNil))) (sSeq (sSet 6 (eC (.int 0)))
  (sSeq (sIf (tOf (eOp (dEq 64) (eVar 4) (eC (.str "p")))) (sSet 6 (eCall 2 (F .knots_if) (aCons (eVar 5) (aCons (eOp (dInt gSub) (eVar 1) (eC (.int 1))) aNil)))) sNext)
  (sSeq (sIf (tfAnd (tOf (eOp (dEq 64) (eVar 6) (eC (.int 0)))) (tfOr (tOf (eOp (dEq 64) (eVar 4) (eC (.str "p")))) (tfNot (tOf (eCall 2 (F .is_leaf_part) (aCons (eVar 4) (aCons (eVar 5) aNil))))))) (sRet (eC (.int 0))) sNext)
  (sSeq (sSet 3 (eOp dAdd (eVar 3) (eVar 6)))
  (sIf (tOf (eOp (dCmp fun i j => decide (i > j)) (eVar 3) (eC (.int 300)))) (sRet (eC (.int 0))) sNext))))))
  (b_knots_if_t5 F))
def b_knots_if_t3 (F : Fns) : B :=
  (sSeq (sSet 3 (eC (.int 1)))
  (b_knots_if_t4 F))
def b_knots_if_t2 (F : Fns) : B :=
  (sSeq (sIf (tfOr (tOf (eOp (dIsN false) (eVar 2) (eC .non))) (tOf (eOp (dNe 64) (eBi bLen (aCons (eVar 0) aNil)) (eOp dAdd (eBi bLen (aCons (eVar 2) aNil)) (eC (.int 1)))))) (sRet (eC (.int 0))) sNext)
  (b_knots_if_t3 F))
def b_knots_if_t1 (F : Fns) : B :=
  (sSeq (sSet 2 (eCall 1 (F .shape_of) (aCons (eOp dIx (eVar 0) (eC (.int 0))) aNil)))
  (b_knots_if_t2 F))
abbrev b_knots_if (F : Fns) : B :=
  (sSeq (sIf (tfOr (tOf (eOp (dEq 64) (eVar 1) (eC (.int 0)))) (tfOr (tfNot (tOf (eIsi "tuple" (eVar 0)))) (tfOr (tOf (eOp (dEq 64) (eBi bLen (aCons (eVar 0) aNil)) (eC (.int 0)))) (tfNot (tOf (eIsi "str" (eOp dIx (eVar 0) (eC (.int 0))))))))) (sRet (eC (.int 0))) sNext)
  (b_knots_if_t1 F))
abbrev b_is_piece (F : Fns) : B :=
  (sRet (eOp (dCmp fun i j => decide (i > j)) (eCall 2 (F .knots_if) (aCons (eVar 0) (aCons (eC (.int 30)) aNil))) (eC (.int 0))))
abbrev b_note_free (F : Fns) : B :=
  (sIf (tOf (eOp (dEq 64) (eOp dIx (eVar 0) (eC (.int 0))) (eC (.str "name")))) (sIf (tOf (eOp (dIn true) (eOp dIx (eVar 0) (eC (.int 1))) (eVar 1))) (sDput (eC (.bl true)) (eVar 2) (eOp dIx (eVar 0) (eC (.int 1)))) sNext) (sIf (tfOr (tOf (eOp (dEq 64) (eOp dIx (eVar 0) (eC (.int 0))) (eC (.str "fun")))) (tOf (eOp (dEq 64) (eOp dIx (eVar 0) (eC (.int 0))) (eC (.str "take"))))) (sExp (eCall 3 (F .note_free) (aCons (eOp dIx (eVar 0) (eC (.int 3))) (aCons (eOp dAdd (eVar 1) (eL (lDisp (aCons (eOp dIx (eVar 0) (eC (.int 2))) aNil)))) (aCons (eVar 2) aNil))))) (sIf (tOf (eOp (dEq 64) (eOp dIx (eVar 0) (eC (.int 0))) (eC (.str "round")))) (sExp (eCall 3 (F .note_free) (aCons (eOp dIx (eVar 0) (eC (.int 1))) (aCons (eVar 1) (aCons (eVar 2) aNil))))) (sIf (tOf (eOp (dNe 64) (eOp dIx (eVar 0) (eC (.int 0))) (eC (.str "num")))) (sFor (iTupD (eSlice (eVar 0) (ptS (eC (.int 2))) ptN)) (gdName 3) (sExp (eCall 3 (F .note_free) (aCons (eVar 3) (aCons (eVar 1) (aCons (eVar 2) aNil)))))) sNext))))
abbrev b_free_names (F : Fns) : B :=
  (sSeq (sSet 1 (eDM ddNew))
  (sSeq (sExp (eCall 3 (F .note_free) (aCons (eVar 0) (aCons (eL (lDisp aNil)) (aCons (eVar 1) aNil)))))
  (sRet (eL (lBi blSort (aCons (eL (lBi blListD (aCons (eVar 1) aNil))) aNil))))))
abbrev b_is_closed (F : Fns) : B :=
  (sRet (eAnd (eCall 1 (F .is_piece) (aCons (eVar 0) aNil)) (eOp (dEq 64) (eCall 1 (F .free_names) (aCons (eVar 0) aNil)) (eL (lDisp aNil)))))
abbrev b__law_cell_at (F : Fns) : B :=
  (sSeq (sIf (tOf (eOp (dCmp fun i j => decide (i < j)) (eVar 1) (eBi bLen (aCons (eVar 0) aNil)))) (sRet (eOp dIx (eVar 0) (eVar 1))) sNext)
  (sRet (eC (.int 0))))
abbrev b__law_mixed (F : Fns) : B :=
  (sSeq (sSet 1 (eOp (dInt gMod) (eOp dAdd (eOp dMul (eVar 0) (eC (.int 48271))) (eC (.int 7919))) (eC (.int 2147483647))))
  (sRet (eOp (dInt gMod) (eOp dAdd (eOp dMul (eVar 1) (eVar 1)) (eOp (dInt gDiv) (eVar 1) (eC (.int 7)))) (eC (.int 2147483647)))))
abbrev b__law_name_by (F : Fns) : B :=
  (sSeq (sSet 1 (eC (.str "abcdefghijklmnopqrstuvwxyz")))
  (sSeq (sIf (tOf (eOp (dEq 64) (eOp (dInt gMod) (eVar 0) (eC (.int 3))) (eC (.int 0)))) (sRet (eOp dIx (eVar 1) (eOp (dInt gMod) (eOp (dInt gDiv) (eVar 0) (eC (.int 3))) (eC (.int 4))))) sNext)
  (sSeq (sSet 2 (eOp dAdd (eC (.int 1)) (eOp (dInt gMod) (eOp (dInt gDiv) (eVar 0) (eC (.int 3))) (eC (.int 8)))))
  (sSeq (sSet 3 (eS1 dJoin (eC (.str "")) (eL (aLc (iRange1 (aCons (eVar 2) aNil)) (gdName 5) tTrue (eOp dIx (eVar 1) (eOp (dInt gMod) (eOp dAdd (eOp (dInt gDiv) (eVar 0) (eC (.int 24))) (eOp dMul (eC (.int 5)) (eVar 5))) (eC (.int 26)))) [5]))))
  (sSeq (sSet 4 (eOp (dInt gMod) (eOp (dInt gDiv) (eVar 0) (eC (.int 624))) (eVar 2)))
  (sRet (eOp dAdd (eOp dAdd (eSlice (eVar 3) ptN (ptS (eVar 4))) (eOp dIx (eVar 1) (eOp (dInt gMod) (eOp (dInt gDiv) (eVar 0) (eC (.int 5))) (eC (.int 26))))) (eSlice (eVar 3) (ptS (eOp dAdd (eVar 4) (eC (.int 1)))) ptN))))))))
abbrev b__law_mark_by (F : Fns) : B :=
  (sSeq (sIf (tOf (eOp (dEq 64) (eOp (dInt gMod) (eVar 0) (eC (.int 2))) (eC (.int 0)))) (sRet (eOp (dInt gMod) (eOp (dInt gDiv) (eVar 0) (eC (.int 2))) (eC (.int 10000)))) sNext)
  (sRet (eOp (dInt gMod) (eOp (dInt gDiv) (eVar 0) (eC (.int 2))) (eC (.int 6)))))
abbrev b__law_leaf (F : Fns) : B :=
  (sSeq (sIf (tfAnd (tOf (eOp (dNe 64) (eVar 1) (eL (lDisp aNil)))) (tOf (eOp (dCmp fun i j => decide (i > j)) (eOp (dInt gMod) (eVar 0) (eC (.int 3))) (eC (.int 0))))) (sRet (eTup (aCons (eC (.str "name")) (aCons (eOp dIx (eVar 1) (eOp (dInt gMod) (eOp (dInt gDiv) (eVar 0) (eC (.int 3))) (eBi bLen (aCons (eVar 1) aNil)))) aNil)))) sNext)
  (sSeq (sIf (tOf (eOp (dEq 64) (eOp (dInt gMod) (eVar 0) (eC (.int 11))) (eC (.int 0)))) (sRet (eTup (aCons (eC (.str "num")) (aCons (eOp dAdd (eOp (dInt gSub) (eOp (dInt gMod) (eOp dMul (eVar 0) (eC (.int 65537))) (eOp (dInt gSub) (eOp dMul (eC (.int 2)) (eOp (dInt gPow) (eC (.int 10)) (eC (.int 12)))) (eC (.int 1)))) (eOp (dInt gPow) (eC (.int 10)) (eC (.int 12)))) (eC (.int 1))) aNil)))) sNext)
  (sRet (eTup (aCons (eC (.str "num")) (aCons (eOp (dInt gSub) (eOp (dInt gMod) (eOp (dInt gDiv) (eVar 0) (eC (.int 3))) (eC (.int 7))) (eC (.int 2))) aNil))))))
def b__law_gone_on_t6 (F : Fns) : B :=
  (sRet (eVar 5))
def b__law_gone_on_t5 (F : Fns) : B :=
  (sSeq (sIf (tOf (eOp (dEq 64) (eOp (dInt gMod) (eVar 4) (eC (.int 4))) (eC (.int 2)))) (sSeq (sSet 6 (eTup (aCons (eC (.str "call")) (aCons (eOp (dInt gMod) (eOp (dInt gDiv) (eVar 4) (eC (.int 9))) (eC (.int 10000))) (aCons (eTup (aCons (eC (.str "name")) (aCons (eOp dIx (eVar 3) (eC (.int 0))) aNil))) (aCons (eTup (aCons (eC (.str "num")) (aCons (eOp (dInt gMod) (eOp (dInt gDiv) (eVar 4) (eC (.int 5))) (eC (.int 7))) aNil))) aNil))))))
  (sRet (eOp dIx (eL (lDisp (aCons (eTup (aCons (eC (.str "plus")) (aCons (eOp (dInt gMod) (eOp (dInt gDiv) (eVar 4) (eC (.int 7))) (eC (.int 10000))) (aCons (eVar 5) (aCons (eVar 6) aNil))))) (aCons (eTup (aCons (eC (.str "plus")) (aCons (eOp (dInt gMod) (eOp (dInt gDiv) (eVar 4) (eC (.int 7))) (eC (.int 10000))) (aCons (eVar 6) (aCons (eVar 5) aNil))))) aNil)))) (eOp (dInt gMod) (eOp (dInt gDiv) (eVar 4) (eC (.int 4))) (eC (.int 2)))))) sNext)
  (b__law_gone_on_t6 F))
def b__law_gone_on_t4 (F : Fns) : B :=
  (sSeq (sIf (tOf (eOp (dEq 64) (eOp (dInt gMod) (eVar 4) (eC (.int 4))) (eC (.int 1)))) (sRet (eTup (aCons (eC (.str "call")) (aCons (eOp (dInt gMod) (eOp (dInt gDiv) (eVar 4) (eC (.int 8))) (eC (.int 10000))) (aCons (eTup (aCons (eC (.str "name")) (aCons (eOp dIx (eVar 3) (eC (.int 0))) aNil))) (aCons (eVar 5) aNil)))))) sNext)
  (b__law_gone_on_t5 F))
def b__law_gone_on_t3 (F : Fns) : B :=
  (sSeq (sSet 5 (eTup (aCons (eC (.str "call")) (aCons (eOp (dInt gMod) (eOp (dInt gDiv) (eVar 4) (eC (.int 4))) (eC (.int 10000))) (aCons (eTup (aCons (eC (.str "name")) (aCons (eOp dIx (eVar 3) (eC (.int 0))) aNil))) (aCons (eVar 5) aNil))))))
  (b__law_gone_on_t4 F))
def b__law_gone_on_t2 (F : Fns) : B :=
  (sSeq (sIf (tfOr (tOf (eOp (dEq 64) (eOp (dInt gMod) (eVar 4) (eC (.int 4))) (eC (.int 0)))) (tOf (eOp (dCmp fun i j => decide (i < j)) (eVar 2) (eC (.int 3))))) (sRet (eVar 5)) sNext)
  (b__law_gone_on_t3 F))
def b__law_gone_on_t1 (F : Fns) : B :=
  (sSeq (sSet 5 (eCall 4 (F ._law_made) (aCons (eVar 0) (aCons (eVar 1) (aCons (eOp (dInt gSub) (eVar 2) (eOp dMul (eC (.int 2)) (eBi bInt (aCons (eAnd (eOp (dCmp fun i j => decide (i > j)) (eOp (dInt gMod) (eVar 4) (eC (.int 4))) (eC (.int 0))) (eOp (dCmp fun i j => decide (i > j)) (eVar 2) (eC (.int 2)))) aNil)))) (aCons (eVar 3) aNil))))))
  (b__law_gone_on_t2 F))
abbrev b__law_gone_on (F : Fns) : B :=
  (sSeq (sSet 4 (eCall 1 (F ._law_mixed) (aCons (eOp dAdd (eCall 2 (F ._law_cell_at) (aCons (eVar 0) (aCons (eOp (dInt gMod) (eOp dIx (eVar 1) (eC (.int 0))) (eC (.int 60))) aNil))) (eC (.int 104729))) aNil)))
  (b__law_gone_on_t1 F))
def b__law_made_t14 (F : Fns) : B :=
  (sRet (eTup (aCons (eC (.str "plus")) (aCons (eVar 6) (aCons (eCall 4 (F ._law_made) (aCons (eVar 0) (aCons (eVar 1) (aCons (eOp (dInt gSub) (eVar 2) (eC (.int 1))) (aCons (eVar 3) aNil))))) (aCons (eCall 4 (F ._law_made) (aCons (eVar 0) (aCons (eVar 1) (aCons (eOp (dInt gSub) (eVar 2) (eC (.int 1))) (aCons (eVar 3) aNil))))) aNil))))))
def b__law_made_t13 (F : Fns) : B :=
  (sSeq (sIf (tOf (eOp (dEq 64) (eOp (dInt gMod) (eOp (dInt gDiv) (eVar 4) (eC (.int 14))) (eC (.int 7))) (eC (.int 1)))) (sRet (eTup (aCons (eC (.str "call")) (aCons (eVar 6) (aCons (eCall 4 (F ._law_made) (aCons (eVar 0) (aCons (eVar 1) (aCons (eOp (dInt gSub) (eVar 2) (eC (.int 1))) (aCons (eVar 3) aNil))))) (aCons (eCall 4 (F ._law_made) (aCons (eVar 0) (aCons (eVar 1) (aCons (eOp (dInt gSub) (eVar 2) (eC (.int 1))) (aCons (eVar 3) aNil))))) aNil)))))) sNext)
  (b__law_made_t14 F))
def b__law_made_t12 (F : Fns) : B :=
  (sSeq (sIf (tOf (eOp (dCmp fun i j => decide (i < j)) (eVar 5) (eC (.int 12)))) (sRet (eTup (aCons (eC (.str "take")) (aCons (eVar 6) (aCons (eVar 7) (aCons (eCall 4 (F ._law_gone_on) (aCons (eVar 0) (aCons (eVar 1) (aCons (eOp (dInt gSub) (eVar 2) (eC (.int 1))) (aCons (eOp dAdd (eL (lDisp (aCons (eVar 7) aNil))) (eVar 3)) aNil))))) aNil)))))) sNext)
  (b__law_made_t13 F))
def b__law_made_t11 (F : Fns) : B :=
  (sSeq (sIf (tOf (eOp (dCmp fun i j => decide (i < j)) (eVar 5) (eC (.int 10)))) (sRet (eTup (aCons (eC (.str "round")) (aCons (eCall 4 (F ._law_made) (aCons (eVar 0) (aCons (eVar 1) (aCons (eOp (dInt gSub) (eVar 2) (eC (.int 1))) (aCons (eVar 3) aNil))))) aNil)))) sNext)
  (b__law_made_t12 F))
def b__law_made_t10 (F : Fns) : B :=
  (sSeq (sIf (tOf (eOp (dEq 64) (eVar 5) (eC (.int 7)))) (sSeq (sSet 10 (eLM (aLc (iRange1 (aCons (eC (.int 3)) aNil)) (gdName 11) tTrue (eCall 4 (F ._law_made) (aCons (eVar 0) (aCons (eVar 1) (aCons (eOp (dInt gSub) (eVar 2) (eC (.int 1))) (aCons (eVar 3) aNil))))) [11])))
  (sSeq (sIf (tOf (eOp (dEq 64) (eOp (dInt gMod) (eOp (dInt gDiv) (eVar 4) (eC (.int 14))) (eC (.int 2))) (eC (.int 1)))) (sSetIx (eTup (aCons (eC (.str "num")) (aCons (eOp (dInt gSub) (eOp (dInt gMod) (eOp (dInt gDiv) (eVar 4) (eC (.int 28))) (eC (.int 5))) (eC (.int 2))) aNil))) (eVar 10) (eC (.int 0))) sNext)
  (sRet (eTup (aCons (eC (.str "pick")) (aCons (eVar 6) (aCons (eOp dIx (eVar 10) (eC (.int 0))) (aCons (eOp dIx (eVar 10) (eC (.int 1))) (aCons (eOp dIx (eVar 10) (eC (.int 2))) aNil))))))))) sNext)
  (b__law_made_t11 F))
def b__law_made_t9 (F : Fns) : B :=
  (sSeq (sIf (tfAnd (tOf (eOp (dCmp fun i j => decide (i < j)) (eVar 5) (eC (.int 7)))) (tOf (eOp (dNe 64) (eVar 3) (eL (lDisp aNil))))) (sSeq (sSet 9 (eTup (aCons (eC (.str "name")) (aCons (eOp dIx (eVar 3) (eOp (dInt gMod) (eOp (dInt gDiv) (eVar 4) (eC (.int 14))) (eBi bMin (aCons (eC (.int 2)) (aCons (eBi bLen (aCons (eVar 3) aNil)) aNil))))) aNil))))
  (sRet (eTup (aCons (eC (.str "call")) (aCons (eVar 6) (aCons (eVar 9) (aCons (eCall 4 (F ._law_made) (aCons (eVar 0) (aCons (eVar 1) (aCons (eOp (dInt gSub) (eVar 2) (eC (.int 1))) (aCons (eVar 3) aNil))))) aNil))))))) sNext)
  (b__law_made_t10 F))
def b__law_made_t8 (F : Fns) : B :=
  (sSeq (sIf (tOf (eOp (dCmp fun i j => decide (i < j)) (eVar 5) (eC (.int 5)))) (sSeq (sSet 8 (eCall 4 (F ._law_made) (aCons (eVar 0) (aCons (eVar 1) (aCons (eOp dAdd (eOp (dInt gSub) (eVar 2) (eC (.int 2))) (eBi bInt (aCons (eOp (dEq 64) (eVar 2) (eC (.int 1))) aNil))) (aCons (eOp dAdd (eL (lDisp (aCons (eVar 7) aNil))) (eVar 3)) aNil))))))
  (sRet (eTup (aCons (eC (.str "call")) (aCons (eVar 6) (aCons (eTup (aCons (eC (.str "fun")) (aCons (eCall 1 (F ._law_mark_by) (aCons (eOp (dInt gDiv) (eVar 4) (eC (.int 41))) aNil)) (aCons (eVar 7) (aCons (eVar 8) aNil))))) (aCons (eCall 4 (F ._law_made) (aCons (eVar 0) (aCons (eVar 1) (aCons (eOp (dInt gSub) (eVar 2) (eC (.int 1))) (aCons (eVar 3) aNil))))) aNil))))))) sNext)
  (b__law_made_t9 F))
def b__law_made_t7 (F : Fns) : B :=
  (sSeq (sIf (tOf (eOp (dEq 64) (eVar 5) (eC (.int 1)))) (sRet (eTup (aCons (eC (.str "fun")) (aCons (eVar 6) (aCons (eVar 7) (aCons (eCall 4 (F ._law_made) (aCons (eVar 0) (aCons (eVar 1) (aCons (eOp (dInt gSub) (eVar 2) (eC (.int 1))) (aCons (eOp dAdd (eL (lDisp (aCons (eVar 7) aNil))) (eVar 3)) aNil))))) aNil)))))) sNext)
  (b__law_made_t8 F))
def b__law_made_t6 (F : Fns) : B :=
  (sSeq (sIf (tfOr (tOf (eOp (dEq 64) (eVar 2) (eC (.int 0)))) (tfOr (tOf (eOp (dEq 64) (eVar 5) (eC (.int 0)))) (tOf (eOp (dCmp fun i j => decide (i > j)) (eOp dIx (eVar 1) (eC (.int 0))) (eC (.int 22)))))) (sRet (eCall 2 (F ._law_leaf) (aCons (eOp (dInt gDiv) (eVar 4) (eC (.int 14))) (aCons (eVar 3) aNil)))) sNext)
  (b__law_made_t7 F))
def b__law_made_t5 (F : Fns) : B :=
  (sSeq (sIf (tfAnd (tOf (eOp (dNe 64) (eVar 3) (eL (lDisp aNil)))) (tOf (eOp (dEq 64) (eOp (dInt gMod) (eOp (dInt gDiv) (eVar 4) (eC (.int 14))) (eC (.int 4))) (eC (.int 1))))) (sSet 7 (eOp dIx (eVar 3) (eOp (dInt gMod) (eOp (dInt gDiv) (eVar 4) (eC (.int 56))) (eBi bLen (aCons (eVar 3) aNil))))) sNext)
  (b__law_made_t6 F))
def b__law_made_t4 (F : Fns) : B :=
  (sSeq (sSet 7 (eCall 1 (F ._law_name_by) (aCons (eOp (dInt gDiv) (eVar 4) (eC (.int 28))) aNil)))
  (b__law_made_t5 F))
def b__law_made_t3 (F : Fns) : B :=
  (sSeq (sSet 6 (eCall 1 (F ._law_mark_by) (aCons (eOp (dInt gDiv) (eVar 4) (eC (.int 14))) aNil)))
  (b__law_made_t4 F))
def b__law_made_t2 (F : Fns) : B :=
  (sSeq (sSet 5 (eOp (dInt gMod) (eVar 4) (eC (.int 14))))
  (b__law_made_t3 F))
def b__law_made_t1 (F : Fns) : B :=
  (sSeq (sSetIx (eOp dAdd (eOp dIx (eVar 1) (eC (.int 0))) (eC (.int 1))) (eVar 1) (eC (.int 0)))
  (b__law_made_t2 F))
abbrev b__law_made (F : Fns) : B :=
  (sSeq (sSet 4 (eCall 1 (F ._law_mixed) (aCons (eOp dAdd (eCall 2 (F ._law_cell_at) (aCons (eVar 0) (aCons (eOp (dInt gMod) (eOp dIx (eVar 1) (eC (.int 0))) (eC (.int 60))) aNil))) (eOp dMul (eC (.int 7919)) (eOp dIx (eVar 1) (eC (.int 0))))) aNil)))
  (b__law_made_t1 F))
def b__law_free_t5 (F : Fns) : B :=
  (sRet (eVar 1))
def b__law_free_t4 (F : Fns) : B :=
  (sSeq (sFor (iTupD (eSlice (eVar 0) (ptS (eC (.int 1))) ptN)) (gdName 2) (sIf (tOf (eIsi "tuple" (eVar 2))) (sSet 1 (eOp dAdd (eVar 1) (eCall 1 (F ._law_free) (aCons (eVar 2) aNil)))) sNext))
  (b__law_free_t5 F))
def b__law_free_t3 (F : Fns) : B :=
  (sSeq (sSet 1 (eL (lDisp aNil)))
  (b__law_free_t4 F))
def b__law_free_t2 (F : Fns) : B :=
  (sSeq (sIf (tfOr (tOf (eOp (dEq 64) (eOp dIx (eVar 0) (eC (.int 0))) (eC (.str "fun")))) (tOf (eOp (dEq 64) (eOp dIx (eVar 0) (eC (.int 0))) (eC (.str "take"))))) (sRet (eL (aLc (iSeq (eCall 1 (F ._law_free) (aCons (eOp dIx (eVar 0) (eC (.int 3))) aNil))) (gdName 3) (tOf (eOp (dNe 64) (eVar 3) (eOp dIx (eVar 0) (eC (.int 2))))) (eVar 3) [3]))) sNext)
  (b__law_free_t3 F))
def b__law_free_t1 (F : Fns) : B :=
  (sSeq (sIf (tOf (eOp (dEq 64) (eOp dIx (eVar 0) (eC (.int 0))) (eC (.str "num")))) (sRet (eL (lDisp aNil))) sNext)
  (b__law_free_t2 F))
abbrev b__law_free (F : Fns) : B :=
  (sSeq (sIf (tOf (eOp (dEq 64) (eOp dIx (eVar 0) (eC (.int 0))) (eC (.str "name")))) (sRet (eL (lDisp (aCons (eOp dIx (eVar 0) (eC (.int 1))) aNil)))) sNext)
  (b__law_free_t1 F))
abbrev b__law_places (F : Fns) : B :=
  (sSeq (sSet 1 (eL (lDisp (aCons (eTup aNil) aNil))))
  (sSeq (sFor (iRange2 (aCons (eC (.int 1)) (aCons (eBi bLen (aCons (eVar 0) aNil)) aNil))) (gdName 2) (sIf (tOf (eIsi "tuple" (eOp dIx (eVar 0) (eVar 2)))) (sSet 1 (eOp dAdd (eVar 1) (eL (aLc (iSeq (eCall 1 (F ._law_places) (aCons (eOp dIx (eVar 0) (eVar 2)) aNil))) (gdName 3) tTrue (eOp dAdd (eTup (aCons (eVar 2) aNil)) (eVar 3)) [3])))) sNext))
  (sRet (eVar 1))))
def b__law_changed_t13 (F : Fns) : B :=
  (sRet (eOp dAdd (eOp dAdd (eSlice (eVar 0) ptN (ptS (eC (.int 2)))) (eTup (aCons (eOp dIx (eL (lDisp (aCons (eC (.str "")) (aCons (eC (.str "abcdefghi")) (aCons (eC (.str "x_")) (aCons (eC (.str "Xy")) (aCons (eC .non) (aCons (eC (.int 4)) aNil)))))))) (eOp (dInt gMod) (eVar 4) (eC (.int 6)))) aNil))) (eSlice (eVar 0) (ptS (eC (.int 3))) ptN)))
def b__law_changed_t12 (F : Fns) : B :=
  (sSeq (sIf (tfOr (tOf (eOp (dCmp fun i j => decide (i < j)) (eVar 3) (eC (.int 10)))) (tfOr (tOf (eOp (dCmp fun i j => decide (i < j)) (eBi bLen (aCons (eVar 0) aNil)) (eC (.int 3)))) (tOf (eOp (dIn true) (eOp dIx (eVar 0) (eC (.int 0))) (eTup (aCons (eC (.str "fun")) (aCons (eC (.str "take")) aNil))))))) (sRet (eOp dAdd (eOp dAdd (eSlice (eVar 0) ptN (ptS (eC (.int 1)))) (eTup (aCons (eOp dIx (eVar 5) (eOp (dInt gMod) (eVar 4) (eBi bLen (aCons (eVar 5) aNil)))) aNil))) (eSlice (eVar 0) (ptS (eC (.int 2))) ptN))) sNext)
  (b__law_changed_t13 F))
def b__law_changed_t11 (F : Fns) : B :=
  (sSeq (sIf (tOf (eOp (dEq 64) (eOp dIx (eVar 0) (eC (.int 0))) (eC (.str "round")))) (sSet 5 (eL (lDisp (aCons (eTup (aCons (eC (.str "num")) (aCons (eOp (dInt gPow) (eC (.int 10)) (eC (.int 12))) aNil))) (aCons (eTup (aCons (eC (.str "name")) (aCons (eC (.str "X")) aNil))) (aCons (eC .non) (aCons (eL (lDisp (aCons (eC (.str "num")) (aCons (eC (.int 1)) aNil)))) aNil))))))) sNext)
  (b__law_changed_t12 F))
def b__law_changed_t10 (F : Fns) : B :=
  (sSeq (sIf (tOf (eOp (dEq 64) (eOp dIx (eVar 0) (eC (.int 0))) (eC (.str "name")))) (sSet 5 (eL (lDisp (aCons (eC (.str "")) (aCons (eC (.str "abcdefghi")) (aCons (eC (.str "A")) (aCons (eC (.str "a b")) (aCons (eC (.str "a1")) (aCons (eC (.str "a\n")) (aCons (eC .non) (aCons (eC (.int 3)) aNil))))))))))) sNext)
  (b__law_changed_t11 F))
def b__law_changed_t9 (F : Fns) : B :=
  (sSeq (sIf (tOf (eOp (dEq 64) (eOp dIx (eVar 0) (eC (.int 0))) (eC (.str "num")))) (sSet 5 (eL (lDisp (aCons (eOp (dInt gPow) (eC (.int 10)) (eC (.int 12))) (aCons (eNeg (eOp (dInt gPow) (eC (.int 10)) (eC (.int 12)))) (aCons (eC (.bl true)) (aCons (eC (.str "1")) (aCons (eC .non) aNil)))))))) sNext)
  (b__law_changed_t10 F))
def b__law_changed_t8 (F : Fns) : B :=
  (sSeq (sSet 5 (eL (lDisp (aCons (eC (.int 10000)) (aCons (eNeg (eC (.int 1))) (aCons (eC (.bl true)) (aCons (eC (.str "1")) (aCons (eC .non) aNil))))))))
  (b__law_changed_t9 F))
def b__law_changed_t7 (F : Fns) : B :=
  (sSeq (sIf (tOf (eOp (dEq 64) (eVar 3) (eC (.int 5)))) (sRet (eOp dIx (eL (lDisp (aCons (eC .non) (aCons (eTup aNil) (aCons (eC (.str "name")) (aCons (eC (.int 5)) (aCons (eC (.bl true)) aNil))))))) (eOp (dInt gMod) (eVar 4) (eC (.int 5))))) sNext)
  (b__law_changed_t8 F))
def b__law_changed_t6 (F : Fns) : B :=
  (sSeq (sIf (tOf (eOp (dEq 64) (eVar 3) (eC (.int 4)))) (sRet (eL (lBi blList (aCons (eVar 0) aNil)))) sNext)
  (b__law_changed_t7 F))
def b__law_changed_t5 (F : Fns) : B :=
  (sSeq (sIf (tOf (eOp (dEq 64) (eVar 3) (eC (.int 3)))) (sRet (eSlice (eVar 0) ptN (ptS (eNeg (eC (.int 1)))))) sNext)
  (b__law_changed_t6 F))
def b__law_changed_t4 (F : Fns) : B :=
  (sSeq (sIf (tOf (eOp (dEq 64) (eVar 3) (eC (.int 2)))) (sRet (eOp dAdd (eVar 0) (eTup (aCons (eOp dIx (eVar 0) (eC (.int 1))) aNil)))) sNext)
  (b__law_changed_t5 F))
def b__law_changed_t3 (F : Fns) : B :=
  (sSeq (sIf (tOf (eOp (dCmp fun i j => decide (i < j)) (eVar 3) (eC (.int 2)))) (sSeq (sSet 7 (eL (lDisp (aCons (eOp dAdd (eOp dIx (eVar 0) (eC (.int 0))) (eC (.str "s"))) (aCons (eC (.str "Fun")) (aCons (eC (.str "")) (aCons (eC .non) (aCons (eC (.int 7)) (aCons (eC (.str "value")) (aCons (eC (.str "shut")) (aCons (eL (lDisp (aCons (eC (.str "fun")) aNil))) aNil)))))))))))
  (sRet (eOp dAdd (eTup (aCons (eOp dIx (eVar 7) (eOp (dInt gMod) (eVar 4) (eC (.int 8)))) aNil)) (eSlice (eVar 0) (ptS (eC (.int 1))) ptN)))) sNext)
  (b__law_changed_t4 F))
def b__law_changed_t2 (F : Fns) : B :=
  (sSeq (sSet 4 (eOp (dInt gDiv) (eVar 2) (eC (.int 12))))
  (b__law_changed_t3 F))
def b__law_changed_t1 (F : Fns) : B :=
  (sSeq (sSet 3 (eOp (dInt gMod) (eVar 2) (eC (.int 12))))
  (b__law_changed_t2 F))
abbrev b__law_changed (F : Fns) : B :=
  (sSeq (sIf (tOf (eOp (dNe 64) (eVar 1) (eTup aNil))) (sSeq (sSet 6 (eCall 3 (F ._law_changed) (aCons (eOp dIx (eVar 0) (eOp dIx (eVar 1) (eC (.int 0)))) (aCons (eSlice (eVar 1) (ptS (eC (.int 1))) ptN) (aCons (eVar 2) aNil)))))
  (sRet (eOp dAdd (eOp dAdd (eSlice (eVar 0) ptN (ptS (eOp dIx (eVar 1) (eC (.int 0))))) (eTup (aCons (eVar 6) aNil))) (eSlice (eVar 0) (ptS (eOp dAdd (eOp dIx (eVar 1) (eC (.int 0))) (eC (.int 1)))) ptN)))) sNext)
  (b__law_changed_t1 F))
def b__law_told_t3 (F : Fns) : B :=
  (sRet (eOp (dEq 64) (eVar 3) (eAnd (eVar 1) (eOp (dEq 64) (eVar 2) (eL (lDisp aNil))))))
def b__law_told_t2 (F : Fns) : B :=
  (sSeq (sIf (tfOr (tfNot (tOf (eIsi "bool" (eVar 4)))) (tfOr (tOf (eOp (dNe 64) (eVar 4) (eVar 1))) (tfNot (tOf (eIsi "bool" (eVar 3)))))) (sRet (eC (.bl false))) sNext)
  (b__law_told_t3 F))
def b__law_told_t1 (F : Fns) : B :=
  (sSeq (sSet 4 (eCall 1 (F .is_piece) (aCons (eVar 0) aNil)))
  (b__law_told_t2 F))
abbrev b__law_told (F : Fns) : B :=
  (sSeq (sSet 3 (eCall 1 (F .is_closed) (aCons (eVar 0) aNil)))
  (b__law_told_t1 F))
def b__law_great_t10 (F : Fns) : B :=
  (sRet (eCall 3 (F ._law_told) (aCons (eOp dIx (eVar 3) (eC (.int 0))) (aCons (eOp (dCmp fun i j => decide (i < j)) (eVar 4) (eC (.int 301))) (aCons (eL (lDisp aNil)) aNil)))))
def b__law_great_t9 (F : Fns) : B :=
  (sSeq (sSet 4 (eOp dAdd (eOp dAdd (eOp (dInt gSub) (eC (.int 299)) (eOp dMul (eC (.int 2)) (eOp (dInt gMod) (eOp (dInt gDiv) (eVar 0) (eC (.int 4))) (eC (.int 2))))) (eOp (dInt gMod) (eOp (dInt gDiv) (eVar 0) (eC (.int 8))) (eC (.int 2)))) (eOp (dInt gMod) (eOp (dInt gDiv) (eVar 0) (eC (.int 16))) (eC (.int 2)))))
  (b__law_great_t10 F))
def b__law_great_t8 (F : Fns) : B :=
  (sSeq (sIf (tOf (eOp (dEq 64) (eOp (dInt gMod) (eOp (dInt gDiv) (eVar 0) (eC (.int 16))) (eC (.int 2))) (eC (.int 1)))) (sSet 3 (eL (lDisp (aCons (eTup (aCons (eC (.str "round")) (aCons (eOp dIx (eVar 3) (eC (.int 0))) aNil))) aNil)))) sNext)
  (b__law_great_t9 F))
def b__law_great_t7 (F : Fns) : B :=
  (sSeq (sIf (tOf (eOp (dEq 64) (eOp (dInt gMod) (eOp (dInt gDiv) (eVar 0) (eC (.int 8))) (eC (.int 2))) (eC (.int 1)))) (sSet 3 (eL (lDisp (aCons (eTup (aCons (eC (.str "round")) (aCons (eOp dIx (eVar 3) (eC (.int 0))) aNil))) aNil)))) sNext)
  (b__law_great_t8 F))
def b__law_great_t6 (F : Fns) : B :=
  (sSeq (sWhile (tOf (eOp (dCmp fun i j => decide (i > j)) (eBi bLen (aCons (eVar 3) aNil)) (eC (.int 1)))) (sSeq (sSet 6 (eL (aLc (iRange3 (aCons (eC (.int 0)) (aCons (eOp (dInt gSub) (eBi bLen (aCons (eVar 3) aNil)) (eC (.int 1))) (aCons (eC (.int 2)) aNil)))) (gdName 5) tTrue (eTup (aCons (eC (.str "plus")) (aCons (eC (.int 1)) (aCons (eOp dIx (eVar 3) (eVar 5)) (aCons (eOp dIx (eVar 3) (eOp dAdd (eVar 5) (eC (.int 1)))) aNil))))) [5])))
  (sSet 3 (eOp dAdd (eVar 6) (eSlice (eVar 3) (ptS (eOp dMul (eC (.int 2)) (eBi bLen (aCons (eVar 6) aNil)))) ptN)))))
  (b__law_great_t7 F))
def b__law_great_t5 (F : Fns) : B :=
  (sSeq (sSet 3 (eL (aLc (iRange1 (aCons (eOp (dInt gSub) (eC (.int 150)) (eOp (dInt gMod) (eOp (dInt gDiv) (eVar 0) (eC (.int 4))) (eC (.int 2)))) aNil)) (gdName 5) tTrue (eTup (aCons (eC (.str "num")) (aCons (eVar 5) aNil))) [5])))
  (b__law_great_t6 F))
def b__law_great_t4 (F : Fns) : B :=
  (sSeq (sIf (tOf (eOp (dCmp fun i j => decide (i < j)) (eOp (dInt gMod) (eVar 0) (eC (.int 4))) (eC (.int 2)))) (sSeq (sFor (iRange1 (aCons (eVar 1) aNil)) (gdName 5) (sSet 2 (eOp dIx (eL (lDisp (aCons (eTup (aCons (eC (.str "round")) (aCons (eVar 2) aNil))) (aCons (eTup (aCons (eC (.str "fun")) (aCons (eVar 5) (aCons (eC (.str "x")) (aCons (eVar 2) aNil))))) aNil)))) (eOp (dInt gMod) (eVar 0) (eC (.int 2))))))
  (sRet (eCall 3 (F ._law_told) (aCons (eVar 2) (aCons (eOp (dCmp fun i j => decide (i < j)) (eVar 1) (eC (.int 30))) (aCons (eL (lDisp aNil)) aNil)))))) sNext)
  (b__law_great_t5 F))
def b__law_great_t3 (F : Fns) : B :=
  (sSeq (sSet 2 (eTup (aCons (eC (.str "num")) (aCons (eOp (dInt gMod) (eVar 0) (eC (.int 9))) aNil))))
  (b__law_great_t4 F))
def b__law_great_t2 (F : Fns) : B :=
  (sSeq (sIf (tOf (eOp (dEq 64) (eOp (dInt gMod) (eOp (dInt gDiv) (eVar 0) (eC (.int 16))) (eC (.int 4))) (eC (.int 1)))) (sSet 1 (eOp dAdd (eC (.int 28)) (eOp (dInt gMod) (eOp (dInt gDiv) (eVar 0) (eC (.int 64))) (eC (.int 50))))) sNext)
  (b__law_great_t3 F))
def b__law_great_t1 (F : Fns) : B :=
  (sSeq (sSet 1 (eOp dAdd (eC (.int 28)) (eOp (dInt gMod) (eOp (dInt gDiv) (eVar 0) (eC (.int 4))) (eC (.int 4)))))
  (b__law_great_t2 F))
abbrev b__law_great (F : Fns) : B :=
  (sSeq (sIf (tOf (eOp (dEq 64) (eOp (dInt gMod) (eOp (dInt gDiv) (eVar 0) (eC (.int 256))) (eC (.int 4))) (eC (.int 1)))) (sSeq (sSet 2 (eTup (aCons (eC (.str "num")) (aCons (eOp (dInt gMod) (eVar 0) (eC (.int 9))) aNil))))
  (sSeq (sFor (iRange1 (aCons (eOp dAdd (eC (.int 10)) (eOp (dInt gMod) (eOp (dInt gDiv) (eVar 0) (eC (.int 1024))) (eC (.int 70)))) aNil)) (gdName 5) (sSet 2 (eOp dIx (eL (lDisp (aCons (eTup (aCons (eC (.str "plus")) (aCons (eC (.int 1)) (aCons (eVar 2) (aCons (eVar 2) aNil))))) (aCons (eTup (aCons (eC (.str "pick")) (aCons (eC (.int 2)) (aCons (eVar 2) (aCons (eTup (aCons (eC (.str "num")) (aCons (eC (.int 1)) aNil))) (aCons (eVar 2) aNil)))))) aNil)))) (eOp (dInt gMod) (eVar 5) (eC (.int 2))))))
  (sRet (eCall 3 (F ._law_told) (aCons (eVar 2) (aCons (eC (.bl false)) (aCons (eL (lDisp aNil)) aNil))))))) sNext)
  (b__law_great_t1 F))
def b_law_t11 (F : Fns) : B :=
  (sRet (eCall 3 (F ._law_told) (aCons (eVar 9) (aCons (eC (.bl false)) (aCons (eL (lDisp aNil)) aNil)))))
def b_law_t10 (F : Fns) : B :=
  (sSeq (sSet 9 (eCall 3 (F ._law_changed) (aCons (eVar 3) (aCons (eOp dIx (eVar 7) (eOp (dInt gMod) (eVar 8) (eBi bLen (aCons (eVar 7) aNil)))) (aCons (eOp dAdd (eOp (dInt gDiv) (eVar 8) (eC (.int 300))) (eOp dMul (eC (.int 7919)) (eOp (dInt gMod) (eVar 8) (eC (.int 300))))) aNil)))))
  (b_law_t11 F))
def b_law_t9 (F : Fns) : B :=
  (sSeq (sSet 8 (eCall 1 (F ._law_mixed) (aCons (eCall 2 (F ._law_cell_at) (aCons (eVar 0) (aCons (eC (.int 3)) aNil))) aNil)))
  (b_law_t10 F))
def b_law_t8 (F : Fns) : B :=
  (sSeq (sSet 7 (eCall 1 (F ._law_places) (aCons (eVar 3) aNil)))
  (b_law_t9 F))
def b_law_t7 (F : Fns) : B :=
  (sSeq (sIf (tOf (eOp (dEq 64) (eOp (dInt gMod) (eCall 2 (F ._law_cell_at) (aCons (eVar 0) (aCons (eC (.int 2)) aNil))) (eC (.int 3))) (eC (.int 0)))) (sRet (eCall 1 (F ._law_great) (aCons (eOp (dInt gMod) (eOp (dInt gDiv) (eCall 1 (F ._law_mixed) (aCons (eCall 2 (F ._law_cell_at) (aCons (eVar 0) (aCons (eC (.int 2)) aNil))) aNil)) (eC (.int 3))) (eC (.int 100000))) aNil))) sNext)
  (b_law_t8 F))
def b_law_t6 (F : Fns) : B :=
  (sSeq (sIf (tfOr (tfNot (tOf (eIsi "list" (eVar 6)))) (tfOr (tOf (eOp (dNe 64) (eVar 6) (eVar 5))) (tfNot (tOf (eCall 3 (F ._law_told) (aCons (eVar 3) (aCons (eC (.bl true)) (aCons (eVar 5) aNil)))))))) (sRet (eC (.bl false))) sNext)
  (b_law_t7 F))
def b_law_t5 (F : Fns) : B :=
  (sSeq (sSet 6 (eCall 1 (F .free_names) (aCons (eVar 3) aNil)))
  (b_law_t6 F))
def b_law_t4 (F : Fns) : B :=
  (sSeq (sSet 5 (eL (lBi blSS (aCons (eCall 1 (F ._law_free) (aCons (eVar 3) aNil)) aNil))))
  (b_law_t5 F))
def b_law_t3 (F : Fns) : B :=
  (sSeq (sFor (iRange1 (aCons (eOp dIx (eL (lDisp (aCons (eC (.int 0)) (aCons (eC (.int 0)) (aCons (eC (.int 1)) (aCons (eC (.int 18)) aNil)))))) (eOp (dInt gMod) (eOp (dInt gDiv) (eVar 1) (eC (.int 14))) (eC (.int 4)))) aNil)) (gdName 4) (sSet 3 (eTup (aCons (eC (.str "plus")) (aCons (eCall 1 (F ._law_mark_by) (aCons (eOp dAdd (eVar 1) (eVar 4)) aNil)) (aCons (eTup (aCons (eC (.str "num")) (aCons (eVar 4) aNil))) (aCons (eVar 3) aNil)))))))
  (b_law_t4 F))
def b_law_t2 (F : Fns) : B :=
  (sSeq (sSet 3 (eCall 4 (F ._law_made) (aCons (eVar 0) (aCons (eLM (lDisp (aCons (eC (.int 4)) aNil))) (aCons (eOp dAdd (eC (.int 1)) (eOp (dInt gMod) (eOp (dInt gDiv) (eVar 1) (eC (.int 2))) (eC (.int 7)))) (aCons (eVar 2) aNil))))))
  (b_law_t3 F))
def b_law_t1 (F : Fns) : B :=
  (sSeq (sSet 2 (eL (aLc (iRange1 (aCons (eOp dMul (eOp (dInt gMod) (eVar 1) (eC (.int 2))) (eC (.int 3))) aNil)) (gdName 4) tTrue (eCall 1 (F ._law_name_by) (aCons (eCall 1 (F ._law_mixed) (aCons (eOp dAdd (eCall 2 (F ._law_cell_at) (aCons (eVar 0) (aCons (eC (.int 1)) aNil))) (eVar 4)) aNil)) aNil)) [4])))
  (b_law_t2 F))
abbrev b_law (F : Fns) : B :=
  (sSeq (sSet 1 (eCall 1 (F ._law_mixed) (aCons (eCall 2 (F ._law_cell_at) (aCons (eVar 0) (aCons (eC (.int 0)) aNil))) aNil)))
  (b_law_t1 F))
def bodies (F : Fns) : Nm → Fn
  | .is_whole => gcFn (fnD 1 (b_is_whole F))
  | .is_name => gcFn (fnD 2 (b_is_name F))
  | .is_mark => gcFn (fnD 1 (b_is_mark F))
  | .is_number => gcFn (fnD 1 (b_is_number F))
  | .shape_of => gcFn (fnD 1 (b_shape_of F))
  | .is_leaf_part => gcFn (fnD 2 (b_is_leaf_part F))
  | .knots_if => gcFn (fnD 7 (b_knots_if F))
  | .is_piece => gcFn (fnD 1 (b_is_piece F))
  | .note_free => gcFn (fnD 4 (b_note_free F))
  | .free_names => gcFn (fnD 2 (b_free_names F))
  | .is_closed => gcFn (fnD 1 (b_is_closed F))
  | ._law_cell_at => gcFn (fnD 2 (b__law_cell_at F))
  | ._law_mixed => gcFn (fnD 2 (b__law_mixed F))
  | ._law_name_by => gcFn (fnD 6 (b__law_name_by F))
  | ._law_mark_by => gcFn (fnD 1 (b__law_mark_by F))
  | ._law_leaf => gcFn (fnD 2 (b__law_leaf F))
  | ._law_gone_on => gcFn (fnD 7 (b__law_gone_on F))
  | ._law_made => gcFn (fnD 12 (b__law_made F))
  | ._law_free => gcFn (fnD 4 (b__law_free F))
  | ._law_places => gcFn (fnD 4 (b__law_places F))
  | ._law_changed => gcFn (fnD 8 (b__law_changed F))
  | ._law_told => gcFn (fnD 5 (b__law_told F))
  | ._law_great => gcFn (fnD 7 (b__law_great F))
/-- the defs, by the calls that are left -/
def Fk : Nat → Fns
  | 0 => fun _ _ _ => none
  | k + 1 => bodies (Fk k)
abbrev nmS : Nm → Str
  | .is_whole => "is_whole"
  | .is_name => "is_name"
  | .is_mark => "is_mark"
  | .is_number => "is_number"
  | .shape_of => "shape_of"
  | .is_leaf_part => "is_leaf_part"
  | .knots_if => "knots_if"
  | .is_piece => "is_piece"
  | .note_free => "note_free"
  | .free_names => "free_names"
  | .is_closed => "is_closed"
  | ._law_cell_at => "_law_cell_at"
  | ._law_mixed => "_law_mixed"
  | ._law_name_by => "_law_name_by"
  | ._law_mark_by => "_law_mark_by"
  | ._law_leaf => "_law_leaf"
  | ._law_gone_on => "_law_gone_on"
  | ._law_made => "_law_made"
  | ._law_free => "_law_free"
  | ._law_places => "_law_places"
  | ._law_changed => "_law_changed"
  | ._law_told => "_law_told"
  | ._law_great => "_law_great"
abbrev nmA : Nm → Nat
  | .is_whole => 1
  | .is_name => 1
  | .is_mark => 1
  | .is_number => 1
  | .shape_of => 1
  | .is_leaf_part => 2
  | .knots_if => 2
  | .is_piece => 1
  | .note_free => 3
  | .free_names => 1
  | .is_closed => 1
  | ._law_cell_at => 2
  | ._law_mixed => 1
  | ._law_name_by => 1
  | ._law_mark_by => 1
  | ._law_leaf => 2
  | ._law_gone_on => 4
  | ._law_made => 4
  | ._law_free => 1
  | ._law_places => 1
  | ._law_changed => 3
  | ._law_told => 3
  | ._law_great => 1
def top (i : Nat) : Stmt := PySem.Challenge.pw_cutback_k01_free_names.main.body.getD i (.Pass ⟨0, 0, 0, 0⟩)
abbrev s_is_whole : Stmt := top 7
abbrev s_is_name : Stmt := top 8
abbrev s_is_mark : Stmt := top 9
abbrev s_is_number : Stmt := top 10
abbrev s_shape_of : Stmt := top 11
abbrev s_is_leaf_part : Stmt := top 12
abbrev s_knots_if : Stmt := top 13
abbrev s_is_piece : Stmt := top 14
abbrev s_note_free : Stmt := top 15
abbrev s_free_names : Stmt := top 16
abbrev s_is_closed : Stmt := top 17
abbrev s__law_cell_at : Stmt := top 19
abbrev s__law_mixed : Stmt := top 20
abbrev s__law_name_by : Stmt := top 21
abbrev s__law_mark_by : Stmt := top 22
abbrev s__law_leaf : Stmt := top 23
abbrev s__law_gone_on : Stmt := top 24
abbrev s__law_made : Stmt := top 25
abbrev s__law_free : Stmt := top 27
abbrev s__law_places : Stmt := top 28
abbrev s__law_changed : Stmt := top 29
abbrev s__law_told : Stmt := top 30
abbrev s__law_great : Stmt := top 31
abbrev s_law : Stmt := top 32
theorem sc_is_whole : FnScope ["thing"] ["thing"] (defScope s_is_whole) := ⟨rfl, rfl, rfl, by decide +kernel, rfl, by decide +kernel, by decide +kernel⟩
theorem sc_is_name : FnScope ["thing", "sign"] ["thing"] (defScope s_is_name) := ⟨rfl, rfl, rfl, by decide +kernel, rfl, by decide +kernel, by decide +kernel⟩
theorem sc_is_mark : FnScope ["thing"] ["thing"] (defScope s_is_mark) := ⟨rfl, rfl, rfl, by decide +kernel, rfl, by decide +kernel, by decide +kernel⟩
theorem sc_is_number : FnScope ["thing"] ["thing"] (defScope s_is_number) := ⟨rfl, rfl, rfl, by decide +kernel, rfl, by decide +kernel, by decide +kernel⟩
theorem sc_shape_of : FnScope ["word"] ["word"] (defScope s_shape_of) := ⟨rfl, rfl, rfl, by decide +kernel, rfl, by decide +kernel, by decide +kernel⟩
theorem sc_is_leaf_part : FnScope ["sign", "thing"] ["sign", "thing"] (defScope s_is_leaf_part) := ⟨rfl, rfl, rfl, by decide +kernel, rfl, by decide +kernel, by decide +kernel⟩
theorem sc_knots_if : FnScope ["thing", "left", "shape", "total", "sign", "part", "many"] ["thing", "left"] (defScope s_knots_if) := ⟨rfl, rfl, rfl, by decide +kernel, rfl, by decide +kernel, by decide +kernel⟩
theorem sc_is_piece : FnScope ["thing"] ["thing"] (defScope s_is_piece) := ⟨rfl, rfl, rfl, by decide +kernel, rfl, by decide +kernel, by decide +kernel⟩
theorem sc_note_free : FnScope ["piece", "bound", "found", "part"] ["piece", "bound", "found"] (defScope s_note_free) := ⟨rfl, rfl, rfl, by decide +kernel, rfl, by decide +kernel, by decide +kernel⟩
theorem sc_free_names : FnScope ["piece", "found"] ["piece"] (defScope s_free_names) := ⟨rfl, rfl, rfl, by decide +kernel, rfl, by decide +kernel, by decide +kernel⟩
theorem sc_is_closed : FnScope ["thing"] ["thing"] (defScope s_is_closed) := ⟨rfl, rfl, rfl, by decide +kernel, rfl, by decide +kernel, by decide +kernel⟩
theorem sc__law_cell_at : FnScope ["_law_script", "_law_k"] ["_law_script", "_law_k"] (defScope s__law_cell_at) := ⟨rfl, rfl, rfl, by decide +kernel, rfl, by decide +kernel, by decide +kernel⟩
theorem sc__law_mixed : FnScope ["_law_number", "_law_first"] ["_law_number"] (defScope s__law_mixed) := ⟨rfl, rfl, rfl, by decide +kernel, rfl, by decide +kernel, by decide +kernel⟩
theorem sc__law_name_by : FnScope ["_law_mix", "_law_some", "_law_size", "_law_row", "_law_at", "_law_k"] ["_law_mix"] (defScope s__law_name_by) := ⟨rfl, rfl, rfl, by decide +kernel, rfl, by decide +kernel, by decide +kernel⟩
theorem sc__law_mark_by : FnScope ["_law_mix"] ["_law_mix"] (defScope s__law_mark_by) := ⟨rfl, rfl, rfl, by decide +kernel, rfl, by decide +kernel, by decide +kernel⟩
theorem sc__law_leaf : FnScope ["_law_mix", "_law_scope"] ["_law_mix", "_law_scope"] (defScope s__law_leaf) := ⟨rfl, rfl, rfl, by decide +kernel, rfl, by decide +kernel, by decide +kernel⟩
theorem sc__law_gone_on : FnScope ["_law_script", "_law_state", "_law_deep", "_law_scope", "_law_mix", "_law_inner", "_law_other"] ["_law_script", "_law_state", "_law_deep", "_law_scope"] (defScope s__law_gone_on) := ⟨rfl, rfl, rfl, by decide +kernel, rfl, by decide +kernel, by decide +kernel⟩
theorem sc__law_made : FnScope ["_law_script", "_law_state", "_law_deep", "_law_scope", "_law_mix", "_law_way", "_law_mark", "_law_name", "_law_body", "_law_first", "_law_parts", "_law_k"] ["_law_script", "_law_state", "_law_deep", "_law_scope"] (defScope s__law_made) := ⟨rfl, rfl, rfl, by decide +kernel, rfl, by decide +kernel, by decide +kernel⟩
theorem sc__law_free : FnScope ["_law_piece_here", "_law_found", "_law_part", "_law_name"] ["_law_piece_here"] (defScope s__law_free) := ⟨rfl, rfl, rfl, by decide +kernel, rfl, by decide +kernel, by decide +kernel⟩
theorem sc__law_places : FnScope ["_law_piece_here", "_law_found", "_law_k", "_law_place"] ["_law_piece_here"] (defScope s__law_places) := ⟨rfl, rfl, rfl, by decide +kernel, rfl, by decide +kernel, by decide +kernel⟩
theorem sc__law_changed : FnScope ["_law_piece_here", "_law_place", "_law_cell", "_law_way", "_law_rest", "_law_bad", "_law_inner", "_law_words"] ["_law_piece_here", "_law_place", "_law_cell"] (defScope s__law_changed) := ⟨rfl, rfl, rfl, by decide +kernel, rfl, by decide +kernel, by decide +kernel⟩
theorem sc__law_told : FnScope ["_law_thing", "_law_good", "_law_names", "_law_closed", "_law_found"] ["_law_thing", "_law_good", "_law_names"] (defScope s__law_told) := ⟨rfl, rfl, rfl, by decide +kernel, rfl, by decide +kernel, by decide +kernel⟩
theorem sc__law_great : FnScope ["_law_cell", "_law_many", "_law_piece_here", "_law_row", "_law_knots", "_law_k", "_law_pairs"] ["_law_cell"] (defScope s__law_great) := ⟨rfl, rfl, rfl, by decide +kernel, rfl, by decide +kernel, by decide +kernel⟩
theorem sc_law : FnScope ["_law_script", "_law_cell", "_law_scope", "_law_piece_here", "_law_k", "_law_due", "_law_found", "_law_places_here", "_law_mix", "_law_wrong"] ["_law_script"] (defScope s_law) := ⟨rfl, rfl, rfl, by decide +kernel, rfl, by decide +kernel, by decide +kernel⟩
section
variable {P : Program} {w : World} {K : PySem.W.Frag} {mg : Str → Option Value} {base : Heap} {C : Addr}
structure Mb (K : PySem.W.Frag) (mg : Str → Option Value) : Prop where
  bool : mg "bool" = none
  int : mg "int" = none
  isinstance : mg "isinstance" = none
  len : mg "len" = none
  list : mg "list" = none
  min : mg "min" = none
  range : mg "range" = none
  set : mg "set" = none
  sorted : mg "sorted" = none
  str : mg "str" = none
  tuple : mg "tuple" = none
  zip : mg "zip" = none
  c_DEEPEST : ∃ t, mg "DEEPEST" = some (.int 30 t)
  c_LETTERS : ∃ t, mg "LETTERS" = some (.str "abcdefghijklmnopqrstuvwxyz" t)
  c_LIMIT : ∃ t, mg "LIMIT" = some (.int 1000000000000 t)
  c_MOST_KNOTS : ∃ t, mg "MOST_KNOTS" = some (.int 300 t)
  c_MOST_LETTERS : ∃ t, mg "MOST_LETTERS" = some (.int 8 t)
  c_MOST_MARK : ∃ t, mg "MOST_MARK" = some (.int 9999 t)
set_option maxHeartbeats 4000000 in
theorem ok_is_whole {k : Nat} {f : Addr} {fd : FuncData} {F : Fns} (hF : L2.Fun K "is_whole" "is_whole" s_is_whole f fd) (hC : ∀ n, Cal P w K mg base C k (nmS n) (nmA n) (F n)) (mb : Mb K mg) : FnOk P w K mg base CX0 (k + 1) f fd ["thing"] (spF C K 1 (fnD 1 (b_is_whole F))) := by
  refine fn_ok hF sc_is_whole rfl fun cdv A outer s H E hr => ?_
  have nd := sc_is_whole.nd
  have hu := hr.units
  have hu1 := hu_of hr
  have mb_bool := mb.bool
  have mb_int := mb.int
  have mb_isinstance := mb.isinstance
  exact ⟨_, (rss_one (rs_ret (re_and (re_isi (T := "int") (by decide) rfl mb_isinstance rfl mb_int (by decide +kernel) (re_var 0)) (re_one (re_not (re_isi (T := "bool") (by decide) rfl mb_isinstance rfl mb_bool (by decide +kernel) (re_var 0)))))))⟩
set_option maxHeartbeats 4000000 in
theorem ok_is_name {k : Nat} {f : Addr} {fd : FuncData} {F : Fns} (hF : L2.Fun K "is_name" "is_name" s_is_name f fd) (hC : ∀ n, Cal P w K mg base C k (nmS n) (nmA n) (F n)) (mb : Mb K mg) : FnOk P w K mg base CX0 (k + 1) f fd ["thing"] (spF C K 1 (fnD 2 (b_is_name F))) := by
  refine fn_ok hF sc_is_name rfl fun cdv A outer s H E hr => ?_
  have nd := sc_is_name.nd
  have hu := hr.units
  have hu1 := hu_of hr
  have mb_isinstance := mb.isinstance
  have mb_len := mb.len
  have mb_str := mb.str
  obtain ⟨tk_LETTERS, mc_LETTERS⟩ := mb.c_LETTERS
  obtain ⟨tk_MOST_LETTERS, mc_MOST_LETTERS⟩ := mb.c_MOST_LETTERS
  exact ⟨_, (rss_cons (rs_if (rt_w (rw_or (rt_not (rt_val (re_isi (T := "str") (by decide) rfl mb_isinstance rfl mb_str (by decide +kernel) (re_var 0)))) (rw_or1 (rt_not (rt_c (rc_lele re_int (re_callB call_lenX s_len rfl mb_len PySem.boot_len (ra_cons (re_var 0) ra_nil)) (re_gInt rfl mc_MOST_LETTERS ⟨_, rfl⟩))))))) (rss_one (rs_ret re_bl)) rss_nil)
    (rss_cons (rs_for PassesOwn.never rfl (ri_str (re_var 0)) (rg_name (vs := [1]) 1 (by decide) nd) (rss_one (rs_if (rt_c (rc_notsign (re_var 1) (re_gStr rfl mc_LETTERS ⟨_, rfl⟩))) (rss_one (rs_ret re_bl)) rss_nil)))
    (rss_one (rs_ret re_bl))))⟩
set_option maxHeartbeats 4000000 in
theorem ok_is_mark {k : Nat} {f : Addr} {fd : FuncData} {F : Fns} (hF : L2.Fun K "is_mark" "is_mark" s_is_mark f fd) (hC : ∀ n, Cal P w K mg base C k (nmS n) (nmA n) (F n)) (mb : Mb K mg) : FnOk P w K mg base CX0 (k + 1) f fd ["thing"] (spF C K 1 (fnD 1 (b_is_mark F))) := by
  refine fn_ok hF sc_is_mark rfl fun cdv A outer s H E hr => ?_
  have nd := sc_is_mark.nd
  have hu := hr.units
  have hu1 := hu_of hr
  obtain ⟨tk_MOST_MARK, mc_MOST_MARK⟩ := mb.c_MOST_MARK
  have c_is_whole : Cal P w K mg base C k "is_whole" 1 (F .is_whole) := hC .is_whole
  exact ⟨_, (rss_one (rs_ret (re_and (re_call c_is_whole hr rfl (ra_cons (re_var 0) ra_nil)) (re_one (re_c (rc_lele re_int (re_var 0) (re_gInt rfl mc_MOST_MARK ⟨_, rfl⟩)))))))⟩
set_option maxHeartbeats 4000000 in
theorem ok_is_number {k : Nat} {f : Addr} {fd : FuncData} {F : Fns} (hF : L2.Fun K "is_number" "is_number" s_is_number f fd) (hC : ∀ n, Cal P w K mg base C k (nmS n) (nmA n) (F n)) (mb : Mb K mg) : FnOk P w K mg base CX0 (k + 1) f fd ["thing"] (spF C K 1 (fnD 1 (b_is_number F))) := by
  refine fn_ok hF sc_is_number rfl fun cdv A outer s H E hr => ?_
  have nd := sc_is_number.nd
  have hu := hr.units
  have hu1 := hu_of hr
  obtain ⟨tk_LIMIT, mc_LIMIT⟩ := mb.c_LIMIT
  have c_is_whole : Cal P w K mg base C k "is_whole" 1 (F .is_whole) := hC .is_whole
  exact ⟨_, (rss_one (rs_ret (re_and (re_call c_is_whole hr rfl (ra_cons (re_var 0) ra_nil)) (re_one (re_c (rc_ltlt (re_neg (re_gInt rfl mc_LIMIT ⟨_, rfl⟩)) (re_var 0) (re_gInt rfl mc_LIMIT ⟨_, rfl⟩)))))))⟩
set_option maxHeartbeats 4000000 in
theorem ok_shape_of {k : Nat} {f : Addr} {fd : FuncData} {F : Fns} (hF : L2.Fun K "shape_of" "shape_of" s_shape_of f fd) (hC : ∀ n, Cal P w K mg base C k (nmS n) (nmA n) (F n)) (mb : Mb K mg) : FnOk P w K mg base CX0 (k + 1) f fd ["word"] (spF C K 1 (fnD 1 (b_shape_of F))) := by
  refine fn_ok hF sc_shape_of rfl fun cdv A outer s H E hr => ?_
  have nd := sc_shape_of.nd
  have hu := hr.units
  have hu1 := hu_of hr
  exact ⟨_, (rss_cons (rs_if (rt_c (rc_eq (L := 64) hu (re_var 0) re_str)) (rss_one (rs_ret re_str)) rss_nil)
    (rss_cons (rs_if (rt_c (rc_eq (L := 64) hu (re_var 0) re_str)) (rss_one (rs_ret re_str)) rss_nil)
    (rss_cons (rs_if (rt_w (rw_or (rt_c (rc_eq (L := 64) hu (re_var 0) re_str)) (rw_or1 (rt_c (rc_eq (L := 64) hu (re_var 0) re_str))))) (rss_one (rs_ret re_str)) rss_nil)
    (rss_cons (rs_if (rt_w (rw_or (rt_c (rc_eq (L := 64) hu (re_var 0) re_str)) (rw_or1 (rt_c (rc_eq (L := 64) hu (re_var 0) re_str))))) (rss_one (rs_ret re_str)) rss_nil)
    (rss_cons (rs_if (rt_c (rc_eq (L := 64) hu (re_var 0) re_str)) (rss_one (rs_ret re_str)) rss_nil)
    (rss_cons (rs_if (rt_c (rc_eq (L := 64) hu (re_var 0) re_str)) (rss_one (rs_ret re_str)) rss_nil)
    (rss_one (rs_ret re_non))))))))⟩
set_option maxHeartbeats 4000000 in
theorem ok_is_leaf_part {k : Nat} {f : Addr} {fd : FuncData} {F : Fns} (hF : L2.Fun K "is_leaf_part" "is_leaf_part" s_is_leaf_part f fd) (hC : ∀ n, Cal P w K mg base C k (nmS n) (nmA n) (F n)) (mb : Mb K mg) : FnOk P w K mg base CX0 (k + 1) f fd ["sign", "thing"] (spF C K 2 (fnD 2 (b_is_leaf_part F))) := by
  refine fn_ok hF sc_is_leaf_part rfl fun cdv A outer s H E hr => ?_
  have nd := sc_is_leaf_part.nd
  have hu := hr.units
  have hu1 := hu_of hr
  have c_is_mark : Cal P w K mg base C k "is_mark" 1 (F .is_mark) := hC .is_mark
  have c_is_name : Cal P w K mg base C k "is_name" 1 (F .is_name) := hC .is_name
  have c_is_number : Cal P w K mg base C k "is_number" 1 (F .is_number) := hC .is_number
  exact ⟨_, (rss_cons (rs_if (rt_c (rc_eq (L := 64) hu (re_var 0) re_str)) (rss_one (rs_ret (re_call c_is_number hr rfl (ra_cons (re_var 1) ra_nil)))) rss_nil)
    (rss_cons (rs_if (rt_c (rc_eq (L := 64) hu (re_var 0) re_str)) (rss_one (rs_ret (re_call c_is_name hr rfl (ra_cons (re_var 1) ra_nil)))) rss_nil)
    (rss_one (rs_ret (re_call c_is_mark hr rfl (ra_cons (re_var 1) ra_nil))))))⟩
set_option maxHeartbeats 4000000 in
theorem ok_knots_if {k : Nat} {f : Addr} {fd : FuncData} {F : Fns} (hF : L2.Fun K "knots_if" "knots_if" s_knots_if f fd) (hC : ∀ n, Cal P w K mg base C k (nmS n) (nmA n) (F n)) (mb : Mb K mg) : FnOk P w K mg base CX0 (k + 1) f fd ["thing", "left"] (spF C K 2 (fnD 7 (b_knots_if F))) := by
  refine fn_ok hF sc_knots_if rfl fun cdv A outer s H E hr => ?_
  have nd := sc_knots_if.nd
  have hu := hr.units
  have hu1 := hu_of hr
  have mb_isinstance := mb.isinstance
  have mb_len := mb.len
  have mb_str := mb.str
  have mb_tuple := mb.tuple
  have mb_zip := mb.zip
  obtain ⟨tk_MOST_KNOTS, mc_MOST_KNOTS⟩ := mb.c_MOST_KNOTS
  have c_is_leaf_part : Cal P w K mg base C k "is_leaf_part" 2 (F .is_leaf_part) := hC .is_leaf_part
  have c_knots_if : Cal P w K mg base C k "knots_if" 2 (F .knots_if) := hC .knots_if
  have c_shape_of : Cal P w K mg base C k "shape_of" 1 (F .shape_of) := hC .shape_of
  exact ⟨_, (rss_cons (rs_if (rt_w (rw_or (rt_c (rc_eq (L := 64) hu (re_var 1) re_int)) (rw_or (rt_not (rt_val (re_isi (T := "tuple") (by decide) rfl mb_isinstance rfl mb_tuple (by decide +kernel) (re_var 0)))) (rw_or (rt_c (rc_eq (L := 64) hu (re_callB call_lenX s_len rfl mb_len PySem.boot_len (ra_cons (re_var 0) ra_nil)) re_int)) (rw_or1 (rt_not (rt_val (re_isi (T := "str") (by decide) rfl mb_isinstance rfl mb_str (by decide +kernel) (re_ix (re_var 0) re_int))))))))) (rss_one (rs_ret re_int)) rss_nil)
    (rss_cons (rs_set 2 nd (re_call c_shape_of hr rfl (ra_cons (re_ix (re_var 0) re_int) ra_nil)))
    (rss_cons (rs_if (rt_w (rw_or (rt_c (rc_is (re_var 2) re_non)) (rw_or1 (rt_c (rc_ne (L := 64) hu (re_callB call_lenX s_len rfl mb_len PySem.boot_len (ra_cons (re_var 0) ra_nil)) (re_add (re_callB call_lenX s_len rfl mb_len PySem.boot_len (ra_cons (re_var 2) ra_nil)) re_int)))))) (rss_one (rs_ret re_int)) rss_nil)
    (rss_cons (rs_set 3 nd re_int)
    (rss_cons (rs_for PassesOwn.never rfl (ri_zipS rfl mb_zip (re_var 2) (re_slice (re_var 0) (rp_some re_int) rp_none)) (rg_tup rfl (rgs_cons (rg_name (vs := [4, 5]) 4 (by decide) nd) (rgs_cons (rg_name (vs := [4, 5]) 5 (by decide) nd) rgs_nil))) (rss_cons (rs_set 6 nd re_int)
    (rss_cons (rs_if (rt_c (rc_eq (L := 64) hu (re_var 4) re_str)) (rss_one (rs_set 6 nd (re_call c_knots_if hr rfl (ra_cons (re_var 5) (ra_cons (re_sub (re_var 1) re_int) ra_nil))))) rss_nil)
    (rss_cons (rs_if (rt_w (rw_and (rt_c (rc_eq (L := 64) hu (re_var 6) re_int)) (rw_and1 (rt_w (rw_or (rt_c (rc_eq (L := 64) hu (re_var 4) re_str)) (rw_or1 (rt_not (rt_val (re_call c_is_leaf_part hr rfl (ra_cons (re_var 4) (ra_cons (re_var 5) ra_nil))))))))))) (rss_one (rs_ret re_int)) rss_nil)
    (rss_cons (rs_set 3 nd (re_add (re_var 3) (re_var 6)))
    (rss_one (rs_if (rt_c (rc_gt (re_var 3) (re_gInt rfl mc_MOST_KNOTS ⟨_, rfl⟩))) (rss_one (rs_ret re_int)) rss_nil)))))))
    (rss_one (rs_ret (re_var 3))))))))⟩
set_option maxHeartbeats 4000000 in
theorem ok_is_piece {k : Nat} {f : Addr} {fd : FuncData} {F : Fns} (hF : L2.Fun K "is_piece" "is_piece" s_is_piece f fd) (hC : ∀ n, Cal P w K mg base C k (nmS n) (nmA n) (F n)) (mb : Mb K mg) : FnOk P w K mg base CX0 (k + 1) f fd ["thing"] (spF C K 1 (fnD 1 (b_is_piece F))) := by
  refine fn_ok hF sc_is_piece rfl fun cdv A outer s H E hr => ?_
  have nd := sc_is_piece.nd
  have hu := hr.units
  have hu1 := hu_of hr
  obtain ⟨tk_DEEPEST, mc_DEEPEST⟩ := mb.c_DEEPEST
  have c_knots_if : Cal P w K mg base C k "knots_if" 2 (F .knots_if) := hC .knots_if
  exact ⟨_, (rss_one (rs_ret (re_c (rc_gt (re_call c_knots_if hr rfl (ra_cons (re_var 0) (ra_cons (re_gInt rfl mc_DEEPEST ⟨_, rfl⟩) ra_nil))) re_int))))⟩
set_option maxHeartbeats 4000000 in
theorem ok_note_free {k : Nat} {f : Addr} {fd : FuncData} {F : Fns} (hF : L2.Fun K "note_free" "note_free" s_note_free f fd) (hC : ∀ n, Cal P w K mg base C k (nmS n) (nmA n) (F n)) (mb : Mb K mg) : FnOk P w K mg base CX0 (k + 1) f fd ["piece", "bound", "found"] (spF C K 3 (fnD 4 (b_note_free F))) := by
  refine fn_ok hF sc_note_free rfl fun cdv A outer s H E hr => ?_
  have nd := sc_note_free.nd
  have hu := hr.units
  have hu1 := hu_of hr
  have c_note_free : Cal P w K mg base C k "note_free" 3 (F .note_free) := hC .note_free
  exact ⟨_, (rss_one (rs_if (rt_c (rc_eq (L := 64) hu (re_ix (re_var 0) re_int) re_str)) (rss_one (rs_if (rt_c (rc_notin (re_ix (re_var 0) re_int) (re_var 1))) (rss_one (rs_dput hu1 re_bl (re_var 2) (re_ix (re_var 0) re_int))) rss_nil)) (rss_one (rs_if (rt_w (rw_or (rt_c (rc_eq (L := 64) hu (re_ix (re_var 0) re_int) re_str)) (rw_or1 (rt_c (rc_eq (L := 64) hu (re_ix (re_var 0) re_int) re_str))))) (rss_one (rs_expr (re_call c_note_free hr rfl (ra_cons (re_ix (re_var 0) re_int) (ra_cons (re_add (re_var 1) (re_L (rl_lst (ra_cons (re_ix (re_var 0) re_int) ra_nil)))) (ra_cons (re_var 2) ra_nil)))))) (rss_one (rs_if (rt_c (rc_eq (L := 64) hu (re_ix (re_var 0) re_int) re_str)) (rss_one (rs_expr (re_call c_note_free hr rfl (ra_cons (re_ix (re_var 0) re_int) (ra_cons (re_var 1) (ra_cons (re_var 2) ra_nil)))))) (rss_one (rs_if (rt_c (rc_ne (L := 64) hu (re_ix (re_var 0) re_int) re_str)) (rss_one (rs_for PassesOwn.never rfl (ri_tup (re_slice (re_var 0) (rp_some re_int) rp_none)) (rg_name (vs := [3]) 3 (by decide) nd) (rss_one (rs_expr (re_call c_note_free hr rfl (ra_cons (re_var 3) (ra_cons (re_var 1) (ra_cons (re_var 2) ra_nil)))))))) rss_nil))))))))⟩
set_option maxHeartbeats 4000000 in
theorem ok_free_names {k : Nat} {f : Addr} {fd : FuncData} {F : Fns} (hF : L2.Fun K "free_names" "free_names" s_free_names f fd) (hC : ∀ n, Cal P w K mg base C k (nmS n) (nmA n) (F n)) (mb : Mb K mg) : FnOk P w K mg base CX0 (k + 1) f fd ["piece"] (spF C K 1 (fnD 2 (b_free_names F))) := by
  refine fn_ok hF sc_free_names rfl fun cdv A outer s H E hr => ?_
  have nd := sc_free_names.nd
  have hu := hr.units
  have hu1 := hu_of hr
  have mb_list := mb.list
  have mb_sorted := mb.sorted
  have c_note_free : Cal P w K mg base C k "note_free" 3 (F .note_free) := hC .note_free
  exact ⟨_, (rss_cons (rs_set 1 nd (re_DM rd_new))
    (rss_cons (rs_expr (re_call c_note_free hr rfl (ra_cons (re_var 0) (ra_cons (re_L (rl_lst ra_nil)) (ra_cons (re_var 1) ra_nil)))))
    (rss_one (rs_ret (re_L (rl_sorted rfl mb_sorted (ra_cons (re_L (rl_callTy (call_list_dK rfl) s_listD rfl mb_list (by decide +kernel) (ra_cons (re_var 1) ra_nil))) ra_nil)))))))⟩
set_option maxHeartbeats 4000000 in
theorem ok_is_closed {k : Nat} {f : Addr} {fd : FuncData} {F : Fns} (hF : L2.Fun K "is_closed" "is_closed" s_is_closed f fd) (hC : ∀ n, Cal P w K mg base C k (nmS n) (nmA n) (F n)) (mb : Mb K mg) : FnOk P w K mg base CX0 (k + 1) f fd ["thing"] (spF C K 1 (fnD 1 (b_is_closed F))) := by
  refine fn_ok hF sc_is_closed rfl fun cdv A outer s H E hr => ?_
  have nd := sc_is_closed.nd
  have hu := hr.units
  have hu1 := hu_of hr
  have c_free_names : Cal P w K mg base C k "free_names" 1 (F .free_names) := hC .free_names
  have c_is_piece : Cal P w K mg base C k "is_piece" 1 (F .is_piece) := hC .is_piece
  exact ⟨_, (rss_one (rs_ret (re_and (re_call c_is_piece hr rfl (ra_cons (re_var 0) ra_nil)) (re_one (re_c (rc_eq (L := 64) hu (re_call c_free_names hr rfl (ra_cons (re_var 0) ra_nil)) (re_L (rl_lst ra_nil))))))))⟩
set_option maxHeartbeats 4000000 in
theorem ok__law_cell_at {k : Nat} {f : Addr} {fd : FuncData} {F : Fns} (hF : L2.Fun K "_law_cell_at" "_law_cell_at" s__law_cell_at f fd) (hC : ∀ n, Cal P w K mg base C k (nmS n) (nmA n) (F n)) (mb : Mb K mg) : FnOk P w K mg base CX0 (k + 1) f fd ["_law_script", "_law_k"] (spF C K 2 (fnD 2 (b__law_cell_at F))) := by
  refine fn_ok hF sc__law_cell_at rfl fun cdv A outer s H E hr => ?_
  have nd := sc__law_cell_at.nd
  have hu := hr.units
  have hu1 := hu_of hr
  have mb_len := mb.len
  exact ⟨_, (rss_cons (rs_if (rt_c (rc_lt (re_var 1) (re_callB call_lenX s_len rfl mb_len PySem.boot_len (ra_cons (re_var 0) ra_nil)))) (rss_one (rs_ret (re_ix (re_var 0) (re_var 1)))) rss_nil)
    (rss_one (rs_ret re_int)))⟩
set_option maxHeartbeats 4000000 in
theorem ok__law_mixed {k : Nat} {f : Addr} {fd : FuncData} {F : Fns} (hF : L2.Fun K "_law_mixed" "_law_mixed" s__law_mixed f fd) (hC : ∀ n, Cal P w K mg base C k (nmS n) (nmA n) (F n)) (mb : Mb K mg) : FnOk P w K mg base CX0 (k + 1) f fd ["_law_number"] (spF C K 1 (fnD 2 (b__law_mixed F))) := by
  refine fn_ok hF sc__law_mixed rfl fun cdv A outer s H E hr => ?_
  have nd := sc__law_mixed.nd
  have hu := hr.units
  have hu1 := hu_of hr
  exact ⟨_, (rss_cons (rs_set 1 nd (re_mod (re_add (re_mul (re_var 0) re_int) re_int) re_int))
    (rss_one (rs_ret (re_mod (re_add (re_mul (re_var 1) (re_var 1)) (re_div (re_var 1) re_int)) re_int))))⟩
set_option maxHeartbeats 4000000 in
theorem ok__law_name_by {k : Nat} {f : Addr} {fd : FuncData} {F : Fns} (hF : L2.Fun K "_law_name_by" "_law_name_by" s__law_name_by f fd) (hC : ∀ n, Cal P w K mg base C k (nmS n) (nmA n) (F n)) (mb : Mb K mg) : FnOk P w K mg base CX0 (k + 1) f fd ["_law_mix"] (spF C K 1 (fnD 6 (b__law_name_by F))) := by
  refine fn_ok hF sc__law_name_by rfl fun cdv A outer s H E hr => ?_
  have nd := sc__law_name_by.nd
  have hu := hr.units
  have hu1 := hu_of hr
  have mb_range := mb.range
  exact ⟨_, (rss_cons (rs_set 1 nd re_str)
    (rss_cons (rs_if (rt_c (rc_eq (L := 64) hu (re_mod (re_var 0) re_int) re_int)) (rss_one (rs_ret (re_ix (re_var 1) (re_mod (re_div (re_var 0) re_int) re_int)))) rss_nil)
    (rss_cons (rs_set 2 nd (re_add re_int (re_mod (re_div (re_var 0) re_int) re_int)))
    (rss_cons (rs_set 3 nd (re_join re_str (re_L (rl_lc rfl nd (own := [("_law_k", 5)]) (ri_range1 rfl mb_range (ra_cons (re_var 2) ra_nil)) (RB.mk (own := [("_law_k", 5)]) (blkOk_by (own := [("_law_k", 5)]) (N := ["_law_mix", "_law_some", "_law_size", "_law_row", "_law_at", "_law_k"]) (sc := defScope s__law_name_by) (by decide +kernel)) (fun _ _ _ _ _ => ⟨_, (rg_name (vs := [5]) 5 (by decide) nd)⟩) (fun _ _ _ _ _ => ⟨_, rts_nil⟩) (fun _ _ _ _ _ => ⟨_, (re_ix (re_var 1) (re_mod (re_add (re_div (re_var 0) re_int) (re_mul re_int (re_var 5))) re_int))⟩))))))
    (rss_cons (rs_set 4 nd (re_mod (re_div (re_var 0) re_int) (re_var 2)))
    (rss_one (rs_ret (re_add (re_add (re_slice (re_var 3) rp_none (rp_some (re_var 4))) (re_ix (re_var 1) (re_mod (re_div (re_var 0) re_int) re_int))) (re_slice (re_var 3) (rp_some (re_add (re_var 4) re_int)) rp_none)))))))))⟩
set_option maxHeartbeats 4000000 in
theorem ok__law_mark_by {k : Nat} {f : Addr} {fd : FuncData} {F : Fns} (hF : L2.Fun K "_law_mark_by" "_law_mark_by" s__law_mark_by f fd) (hC : ∀ n, Cal P w K mg base C k (nmS n) (nmA n) (F n)) (mb : Mb K mg) : FnOk P w K mg base CX0 (k + 1) f fd ["_law_mix"] (spF C K 1 (fnD 1 (b__law_mark_by F))) := by
  refine fn_ok hF sc__law_mark_by rfl fun cdv A outer s H E hr => ?_
  have nd := sc__law_mark_by.nd
  have hu := hr.units
  have hu1 := hu_of hr
  exact ⟨_, (rss_cons (rs_if (rt_c (rc_eq (L := 64) hu (re_mod (re_var 0) re_int) re_int)) (rss_one (rs_ret (re_mod (re_div (re_var 0) re_int) re_int))) rss_nil)
    (rss_one (rs_ret (re_mod (re_div (re_var 0) re_int) re_int))))⟩
set_option maxHeartbeats 4000000 in
theorem ok__law_leaf {k : Nat} {f : Addr} {fd : FuncData} {F : Fns} (hF : L2.Fun K "_law_leaf" "_law_leaf" s__law_leaf f fd) (hC : ∀ n, Cal P w K mg base C k (nmS n) (nmA n) (F n)) (mb : Mb K mg) : FnOk P w K mg base CX0 (k + 1) f fd ["_law_mix", "_law_scope"] (spF C K 2 (fnD 2 (b__law_leaf F))) := by
  refine fn_ok hF sc__law_leaf rfl fun cdv A outer s H E hr => ?_
  have nd := sc__law_leaf.nd
  have hu := hr.units
  have hu1 := hu_of hr
  have mb_len := mb.len
  exact ⟨_, (rss_cons (rs_if (rt_w (rw_and (rt_c (rc_ne (L := 64) hu (re_var 1) (re_L (rl_lst ra_nil)))) (rw_and1 (rt_c (rc_gt (re_mod (re_var 0) re_int) re_int))))) (rss_one (rs_ret (re_tup (ra_cons re_str (ra_cons (re_ix (re_var 1) (re_mod (re_div (re_var 0) re_int) (re_callB call_lenX s_len rfl mb_len PySem.boot_len (ra_cons (re_var 1) ra_nil)))) ra_nil))))) rss_nil)
    (rss_cons (rs_if (rt_c (rc_eq (L := 64) hu (re_mod (re_var 0) re_int) re_int)) (rss_one (rs_ret (re_tup (ra_cons re_str (ra_cons (re_add (re_sub (re_mod (re_mul (re_var 0) re_int) (re_sub (re_mul re_int (re_pow re_int re_int)) re_int)) (re_pow re_int re_int)) re_int) ra_nil))))) rss_nil)
    (rss_one (rs_ret (re_tup (ra_cons re_str (ra_cons (re_sub (re_mod (re_div (re_var 0) re_int) re_int) re_int) ra_nil)))))))⟩
set_option maxHeartbeats 4000000 in
theorem ok__law_gone_on {k : Nat} {f : Addr} {fd : FuncData} {F : Fns} (hF : L2.Fun K "_law_gone_on" "_law_gone_on" s__law_gone_on f fd) (hC : ∀ n, Cal P w K mg base C k (nmS n) (nmA n) (F n)) (mb : Mb K mg) : FnOk P w K mg base CX0 (k + 1) f fd ["_law_script", "_law_state", "_law_deep", "_law_scope"] (spF C K 4 (fnD 7 (b__law_gone_on F))) := by
  refine fn_ok hF sc__law_gone_on rfl fun cdv A outer s H E hr => ?_
  have nd := sc__law_gone_on.nd
  have hu := hr.units
  have hu1 := hu_of hr
  have mb_int := mb.int
  have c__law_cell_at : Cal P w K mg base C k "_law_cell_at" 2 (F ._law_cell_at) := hC ._law_cell_at
  have c__law_made : Cal P w K mg base C k "_law_made" 4 (F ._law_made) := hC ._law_made
  have c__law_mixed : Cal P w K mg base C k "_law_mixed" 1 (F ._law_mixed) := hC ._law_mixed
  exact ⟨_, (rss_cons (rs_set 4 nd (re_call c__law_mixed hr rfl (ra_cons (re_add (re_call c__law_cell_at hr rfl (ra_cons (re_var 0) (ra_cons (re_mod (re_ix (re_var 1) re_int) re_int) ra_nil))) re_int) ra_nil)))
    (rss_cons (rs_set 5 nd (re_call c__law_made hr rfl (ra_cons (re_var 0) (ra_cons (re_var 1) (ra_cons (re_sub (re_var 2) (re_mul re_int (re_callTy call_int1 s_int rfl mb_int (by decide +kernel) (ra_cons (re_and (re_c (rc_gt (re_mod (re_var 4) re_int) re_int)) (re_one (re_c (rc_gt (re_var 2) re_int)))) ra_nil)))) (ra_cons (re_var 3) ra_nil))))))
    (rss_cons (rs_if (rt_w (rw_or (rt_c (rc_eq (L := 64) hu (re_mod (re_var 4) re_int) re_int)) (rw_or1 (rt_c (rc_lt (re_var 2) re_int))))) (rss_one (rs_ret (re_var 5))) rss_nil)
    (rss_cons (rs_set 5 nd (re_tup (ra_cons re_str (ra_cons (re_mod (re_div (re_var 4) re_int) re_int) (ra_cons (re_tup (ra_cons re_str (ra_cons (re_ix (re_var 3) re_int) ra_nil))) (ra_cons (re_var 5) ra_nil))))))
    (rss_cons (rs_if (rt_c (rc_eq (L := 64) hu (re_mod (re_var 4) re_int) re_int)) (rss_one (rs_ret (re_tup (ra_cons re_str (ra_cons (re_mod (re_div (re_var 4) re_int) re_int) (ra_cons (re_tup (ra_cons re_str (ra_cons (re_ix (re_var 3) re_int) ra_nil))) (ra_cons (re_var 5) ra_nil))))))) rss_nil)
    (rss_cons (rs_if (rt_c (rc_eq (L := 64) hu (re_mod (re_var 4) re_int) re_int)) (rss_cons (rs_set 6 nd (re_tup (ra_cons re_str (ra_cons (re_mod (re_div (re_var 4) re_int) re_int) (ra_cons (re_tup (ra_cons re_str (ra_cons (re_ix (re_var 3) re_int) ra_nil))) (ra_cons (re_tup (ra_cons re_str (ra_cons (re_mod (re_div (re_var 4) re_int) re_int) ra_nil))) ra_nil))))))
    (rss_one (rs_ret (re_ix (re_L (rl_lst (ra_cons (re_tup (ra_cons re_str (ra_cons (re_mod (re_div (re_var 4) re_int) re_int) (ra_cons (re_var 5) (ra_cons (re_var 6) ra_nil))))) (ra_cons (re_tup (ra_cons re_str (ra_cons (re_mod (re_div (re_var 4) re_int) re_int) (ra_cons (re_var 6) (ra_cons (re_var 5) ra_nil))))) ra_nil)))) (re_mod (re_div (re_var 4) re_int) re_int))))) rss_nil)
    (rss_one (rs_ret (re_var 5)))))))))⟩
set_option maxHeartbeats 4000000 in
theorem ok__law_made {k : Nat} {f : Addr} {fd : FuncData} {F : Fns} (hF : L2.Fun K "_law_made" "_law_made" s__law_made f fd) (hC : ∀ n, Cal P w K mg base C k (nmS n) (nmA n) (F n)) (mb : Mb K mg) : FnOk P w K mg base CX0 (k + 1) f fd ["_law_script", "_law_state", "_law_deep", "_law_scope"] (spF C K 4 (fnD 12 (b__law_made F))) := by
  refine fn_ok hF sc__law_made rfl fun cdv A outer s H E hr => ?_
  have nd := sc__law_made.nd
  have hu := hr.units
  have hu1 := hu_of hr
  have mb_int := mb.int
  have mb_len := mb.len
  have mb_min := mb.min
  have mb_range := mb.range
  have c__law_cell_at : Cal P w K mg base C k "_law_cell_at" 2 (F ._law_cell_at) := hC ._law_cell_at
  have c__law_gone_on : Cal P w K mg base C k "_law_gone_on" 4 (F ._law_gone_on) := hC ._law_gone_on
  have c__law_leaf : Cal P w K mg base C k "_law_leaf" 2 (F ._law_leaf) := hC ._law_leaf
  have c__law_made : Cal P w K mg base C k "_law_made" 4 (F ._law_made) := hC ._law_made
  have c__law_mark_by : Cal P w K mg base C k "_law_mark_by" 1 (F ._law_mark_by) := hC ._law_mark_by
  have c__law_mixed : Cal P w K mg base C k "_law_mixed" 1 (F ._law_mixed) := hC ._law_mixed
  have c__law_name_by : Cal P w K mg base C k "_law_name_by" 1 (F ._law_name_by) := hC ._law_name_by
  exact ⟨_, (rss_cons (rs_set 4 nd (re_call c__law_mixed hr rfl (ra_cons (re_add (re_call c__law_cell_at hr rfl (ra_cons (re_var 0) (ra_cons (re_mod (re_ix (re_var 1) re_int) re_int) ra_nil))) (re_mul re_int (re_ix (re_var 1) re_int))) ra_nil)))
    (rss_cons (rs_setIx (fun h1 h2 => pg_sub h1 h2 set_list) (re_add (re_ix (re_var 1) re_int) re_int) (re_var 1) re_int)
    (rss_cons (rs_set 5 nd (re_mod (re_var 4) re_int))
    (rss_cons (rs_set 6 nd (re_call c__law_mark_by hr rfl (ra_cons (re_div (re_var 4) re_int) ra_nil)))
    (rss_cons (rs_set 7 nd (re_call c__law_name_by hr rfl (ra_cons (re_div (re_var 4) re_int) ra_nil)))
    (rss_cons (rs_if (rt_w (rw_and (rt_c (rc_ne (L := 64) hu (re_var 3) (re_L (rl_lst ra_nil)))) (rw_and1 (rt_c (rc_eq (L := 64) hu (re_mod (re_div (re_var 4) re_int) re_int) re_int))))) (rss_one (rs_set 7 nd (re_ix (re_var 3) (re_mod (re_div (re_var 4) re_int) (re_callB call_lenX s_len rfl mb_len PySem.boot_len (ra_cons (re_var 3) ra_nil)))))) rss_nil)
    (rss_cons (rs_if (rt_w (rw_or (rt_c (rc_eq (L := 64) hu (re_var 2) re_int)) (rw_or (rt_c (rc_eq (L := 64) hu (re_var 5) re_int)) (rw_or1 (rt_c (rc_gt (re_ix (re_var 1) re_int) re_int)))))) (rss_one (rs_ret (re_call c__law_leaf hr rfl (ra_cons (re_div (re_var 4) re_int) (ra_cons (re_var 3) ra_nil))))) rss_nil)
    (rss_cons (rs_if (rt_c (rc_eq (L := 64) hu (re_var 5) re_int)) (rss_one (rs_ret (re_tup (ra_cons re_str (ra_cons (re_var 6) (ra_cons (re_var 7) (ra_cons (re_call c__law_made hr rfl (ra_cons (re_var 0) (ra_cons (re_var 1) (ra_cons (re_sub (re_var 2) re_int) (ra_cons (re_add (re_L (rl_lst (ra_cons (re_var 7) ra_nil))) (re_var 3)) ra_nil))))) ra_nil))))))) rss_nil)
    (rss_cons (rs_if (rt_c (rc_lt (re_var 5) re_int)) (rss_cons (rs_set 8 nd (re_call c__law_made hr rfl (ra_cons (re_var 0) (ra_cons (re_var 1) (ra_cons (re_add (re_sub (re_var 2) re_int) (re_callTy call_int1 s_int rfl mb_int (by decide +kernel) (ra_cons (re_c (rc_eq (L := 64) hu (re_var 2) re_int)) ra_nil))) (ra_cons (re_add (re_L (rl_lst (ra_cons (re_var 7) ra_nil))) (re_var 3)) ra_nil))))))
    (rss_one (rs_ret (re_tup (ra_cons re_str (ra_cons (re_var 6) (ra_cons (re_tup (ra_cons re_str (ra_cons (re_call c__law_mark_by hr rfl (ra_cons (re_div (re_var 4) re_int) ra_nil)) (ra_cons (re_var 7) (ra_cons (re_var 8) ra_nil))))) (ra_cons (re_call c__law_made hr rfl (ra_cons (re_var 0) (ra_cons (re_var 1) (ra_cons (re_sub (re_var 2) re_int) (ra_cons (re_var 3) ra_nil))))) ra_nil)))))))) rss_nil)
    (rss_cons (rs_if (rt_w (rw_and (rt_c (rc_lt (re_var 5) re_int)) (rw_and1 (rt_c (rc_ne (L := 64) hu (re_var 3) (re_L (rl_lst ra_nil))))))) (rss_cons (rs_set 9 nd (re_tup (ra_cons re_str (ra_cons (re_ix (re_var 3) (re_mod (re_div (re_var 4) re_int) (re_callB (call_min2 rfl) s_min rfl mb_min (by decide +kernel) (ra_cons re_int (ra_cons (re_callB call_lenX s_len rfl mb_len PySem.boot_len (ra_cons (re_var 3) ra_nil)) ra_nil))))) ra_nil))))
    (rss_one (rs_ret (re_tup (ra_cons re_str (ra_cons (re_var 6) (ra_cons (re_var 9) (ra_cons (re_call c__law_made hr rfl (ra_cons (re_var 0) (ra_cons (re_var 1) (ra_cons (re_sub (re_var 2) re_int) (ra_cons (re_var 3) ra_nil))))) ra_nil)))))))) rss_nil)
    (rss_cons (rs_if (rt_c (rc_eq (L := 64) hu (re_var 5) re_int)) (rss_cons (rs_lcM 10 rfl nd (own := [("_law_k", 11)]) (ri_range1 rfl mb_range (ra_cons re_int ra_nil)) (RB.mk (own := [("_law_k", 11)]) (blkOk_by (own := [("_law_k", 11)]) (N := ["_law_script", "_law_state", "_law_deep", "_law_scope", "_law_mix", "_law_way", "_law_mark", "_law_name", "_law_body", "_law_first", "_law_parts", "_law_k"]) (sc := defScope s__law_made) (by decide +kernel)) (fun _ _ _ _ _ => ⟨_, (rg_name (vs := [11]) 11 (by decide) nd)⟩) (fun _ _ _ _ _ => ⟨_, rts_nil⟩) (fun _ _ _ _ _ => ⟨_, (re_call c__law_made hr rfl (ra_cons (re_var 0) (ra_cons (re_var 1) (ra_cons (re_sub (re_var 2) re_int) (ra_cons (re_var 3) ra_nil)))))⟩)) (hsw := sw_true rfl rfl rfl (by decide +kernel)))
    (rss_cons (rs_if (rt_c (rc_eq (L := 64) hu (re_mod (re_div (re_var 4) re_int) re_int) re_int)) (rss_one (rs_setIx (fun h1 h2 => pg_sub h1 h2 set_list) (re_tup (ra_cons re_str (ra_cons (re_sub (re_mod (re_div (re_var 4) re_int) re_int) re_int) ra_nil))) (re_var 10) re_int)) rss_nil)
    (rss_one (rs_ret (re_tup (ra_cons re_str (ra_cons (re_var 6) (ra_cons (re_ix (re_var 10) re_int) (ra_cons (re_ix (re_var 10) re_int) (ra_cons (re_ix (re_var 10) re_int) ra_nil)))))))))) rss_nil)
    (rss_cons (rs_if (rt_c (rc_lt (re_var 5) re_int)) (rss_one (rs_ret (re_tup (ra_cons re_str (ra_cons (re_call c__law_made hr rfl (ra_cons (re_var 0) (ra_cons (re_var 1) (ra_cons (re_sub (re_var 2) re_int) (ra_cons (re_var 3) ra_nil))))) ra_nil))))) rss_nil)
    (rss_cons (rs_if (rt_c (rc_lt (re_var 5) re_int)) (rss_one (rs_ret (re_tup (ra_cons re_str (ra_cons (re_var 6) (ra_cons (re_var 7) (ra_cons (re_call c__law_gone_on hr rfl (ra_cons (re_var 0) (ra_cons (re_var 1) (ra_cons (re_sub (re_var 2) re_int) (ra_cons (re_add (re_L (rl_lst (ra_cons (re_var 7) ra_nil))) (re_var 3)) ra_nil))))) ra_nil))))))) rss_nil)
    (rss_cons (rs_if (rt_c (rc_eq (L := 64) hu (re_mod (re_div (re_var 4) re_int) re_int) re_int)) (rss_one (rs_ret (re_tup (ra_cons re_str (ra_cons (re_var 6) (ra_cons (re_call c__law_made hr rfl (ra_cons (re_var 0) (ra_cons (re_var 1) (ra_cons (re_sub (re_var 2) re_int) (ra_cons (re_var 3) ra_nil))))) (ra_cons (re_call c__law_made hr rfl (ra_cons (re_var 0) (ra_cons (re_var 1) (ra_cons (re_sub (re_var 2) re_int) (ra_cons (re_var 3) ra_nil))))) ra_nil))))))) rss_nil)
    (rss_one (rs_ret (re_tup (ra_cons re_str (ra_cons (re_var 6) (ra_cons (re_call c__law_made hr rfl (ra_cons (re_var 0) (ra_cons (re_var 1) (ra_cons (re_sub (re_var 2) re_int) (ra_cons (re_var 3) ra_nil))))) (ra_cons (re_call c__law_made hr rfl (ra_cons (re_var 0) (ra_cons (re_var 1) (ra_cons (re_sub (re_var 2) re_int) (ra_cons (re_var 3) ra_nil))))) ra_nil)))))))))))))))))))))⟩
set_option maxHeartbeats 4000000 in
theorem ok__law_free {k : Nat} {f : Addr} {fd : FuncData} {F : Fns} (hF : L2.Fun K "_law_free" "_law_free" s__law_free f fd) (hC : ∀ n, Cal P w K mg base C k (nmS n) (nmA n) (F n)) (mb : Mb K mg) : FnOk P w K mg base CX0 (k + 1) f fd ["_law_piece_here"] (spF C K 1 (fnD 4 (b__law_free F))) := by
  refine fn_ok hF sc__law_free rfl fun cdv A outer s H E hr => ?_
  have nd := sc__law_free.nd
  have hu := hr.units
  have hu1 := hu_of hr
  have mb_isinstance := mb.isinstance
  have mb_tuple := mb.tuple
  have c__law_free : Cal P w K mg base C k "_law_free" 1 (F ._law_free) := hC ._law_free
  exact ⟨_, (rss_cons (rs_if (rt_c (rc_eq (L := 64) hu (re_ix (re_var 0) re_int) re_str)) (rss_one (rs_ret (re_L (rl_lst (ra_cons (re_ix (re_var 0) re_int) ra_nil))))) rss_nil)
    (rss_cons (rs_if (rt_c (rc_eq (L := 64) hu (re_ix (re_var 0) re_int) re_str)) (rss_one (rs_ret (re_L (rl_lst ra_nil)))) rss_nil)
    (rss_cons (rs_if (rt_w (rw_or (rt_c (rc_eq (L := 64) hu (re_ix (re_var 0) re_int) re_str)) (rw_or1 (rt_c (rc_eq (L := 64) hu (re_ix (re_var 0) re_int) re_str))))) (rss_one (rs_ret (re_L (rl_lc rfl nd (own := [("_law_name", 3)]) (ri_list (re_call c__law_free hr rfl (ra_cons (re_ix (re_var 0) re_int) ra_nil))) (RB.mk (own := [("_law_name", 3)]) (blkOk_by (own := [("_law_name", 3)]) (N := ["_law_piece_here", "_law_found", "_law_part", "_law_name"]) (sc := defScope s__law_free) (by decide +kernel)) (fun _ _ _ _ _ => ⟨_, (rg_name (vs := [3]) 3 (by decide) nd)⟩) (fun _ _ _ _ _ => ⟨_, (rts_one (rt_c (rc_ne (L := 64) hu (re_var 3) (re_ix (re_var 0) re_int))))⟩) (fun _ _ _ _ _ => ⟨_, (re_var 3)⟩)))))) rss_nil)
    (rss_cons (rs_set 1 nd (re_L (rl_lst ra_nil)))
    (rss_cons (rs_for PassesOwn.never rfl (ri_tup (re_slice (re_var 0) (rp_some re_int) rp_none)) (rg_name (vs := [2]) 2 (by decide) nd) (rss_one (rs_if (rt_val (re_isi (T := "tuple") (by decide) rfl mb_isinstance rfl mb_tuple (by decide +kernel) (re_var 2))) (rss_one (rs_set 1 nd (re_add (re_var 1) (re_call c__law_free hr rfl (ra_cons (re_var 2) ra_nil))))) rss_nil)))
    (rss_one (rs_ret (re_var 1))))))))⟩
set_option maxHeartbeats 4000000 in
theorem ok__law_places {k : Nat} {f : Addr} {fd : FuncData} {F : Fns} (hF : L2.Fun K "_law_places" "_law_places" s__law_places f fd) (hC : ∀ n, Cal P w K mg base C k (nmS n) (nmA n) (F n)) (mb : Mb K mg) : FnOk P w K mg base CX0 (k + 1) f fd ["_law_piece_here"] (spF C K 1 (fnD 4 (b__law_places F))) := by
  refine fn_ok hF sc__law_places rfl fun cdv A outer s H E hr => ?_
  have nd := sc__law_places.nd
  have hu := hr.units
  have hu1 := hu_of hr
  have mb_isinstance := mb.isinstance
  have mb_len := mb.len
  have mb_range := mb.range
  have mb_tuple := mb.tuple
  have c__law_places : Cal P w K mg base C k "_law_places" 1 (F ._law_places) := hC ._law_places
  exact ⟨_, (rss_cons (rs_set 1 nd (re_L (rl_lst (ra_cons (re_tup ra_nil) ra_nil))))
    (rss_cons (rs_for PassesOwn.never rfl (ri_range2 rfl mb_range (ra_cons re_int (ra_cons (re_callB call_lenX s_len rfl mb_len PySem.boot_len (ra_cons (re_var 0) ra_nil)) ra_nil))) (rg_name (vs := [2]) 2 (by decide) nd) (rss_one (rs_if (rt_val (re_isi (T := "tuple") (by decide) rfl mb_isinstance rfl mb_tuple (by decide +kernel) (re_ix (re_var 0) (re_var 2)))) (rss_one (rs_set 1 nd (re_add (re_var 1) (re_L (rl_lc rfl nd (own := [("_law_place", 3)]) (ri_list (re_call c__law_places hr rfl (ra_cons (re_ix (re_var 0) (re_var 2)) ra_nil))) (RB.mk (own := [("_law_place", 3)]) (blkOk_by (own := [("_law_place", 3)]) (N := ["_law_piece_here", "_law_found", "_law_k", "_law_place"]) (sc := defScope s__law_places) (by decide +kernel)) (fun _ _ _ _ _ => ⟨_, (rg_name (vs := [3]) 3 (by decide) nd)⟩) (fun _ _ _ _ _ => ⟨_, rts_nil⟩) (fun _ _ _ _ _ => ⟨_, (re_add (re_tup (ra_cons (re_var 2) ra_nil)) (re_var 3))⟩))))))) rss_nil)))
    (rss_one (rs_ret (re_var 1)))))⟩
set_option maxHeartbeats 4000000 in
theorem ok__law_changed {k : Nat} {f : Addr} {fd : FuncData} {F : Fns} (hF : L2.Fun K "_law_changed" "_law_changed" s__law_changed f fd) (hC : ∀ n, Cal P w K mg base C k (nmS n) (nmA n) (F n)) (mb : Mb K mg) : FnOk P w K mg base CX0 (k + 1) f fd ["_law_piece_here", "_law_place", "_law_cell"] (spF C K 3 (fnD 8 (b__law_changed F))) := by
  refine fn_ok hF sc__law_changed rfl fun cdv A outer s H E hr => ?_
  have nd := sc__law_changed.nd
  have hu := hr.units
  have hu1 := hu_of hr
  have mb_len := mb.len
  have mb_list := mb.list
  have c__law_changed : Cal P w K mg base C k "_law_changed" 3 (F ._law_changed) := hC ._law_changed
  exact ⟨_, (rss_cons (rs_if (rt_c (rc_ne (L := 64) hu (re_var 1) (re_tup ra_nil))) (rss_cons (rs_set 6 nd (re_call c__law_changed hr rfl (ra_cons (re_ix (re_var 0) (re_ix (re_var 1) re_int)) (ra_cons (re_slice (re_var 1) (rp_some re_int) rp_none) (ra_cons (re_var 2) ra_nil)))))
    (rss_one (rs_ret (re_add (re_add (re_slice (re_var 0) rp_none (rp_some (re_ix (re_var 1) re_int))) (re_tup (ra_cons (re_var 6) ra_nil))) (re_slice (re_var 0) (rp_some (re_add (re_ix (re_var 1) re_int) re_int)) rp_none))))) rss_nil)
    (rss_cons (rs_set 3 nd (re_mod (re_var 2) re_int))
    (rss_cons (rs_set 4 nd (re_div (re_var 2) re_int))
    (rss_cons (rs_if (rt_c (rc_lt (re_var 3) re_int)) (rss_cons (rs_set 7 nd (re_L (rl_lst (ra_cons (re_add (re_ix (re_var 0) re_int) re_str) (ra_cons re_str (ra_cons re_str (ra_cons re_non (ra_cons re_int (ra_cons re_str (ra_cons re_str (ra_cons (re_L (rl_lst (ra_cons re_str ra_nil))) ra_nil)))))))))))
    (rss_one (rs_ret (re_add (re_tup (ra_cons (re_ix (re_var 7) (re_mod (re_var 4) re_int)) ra_nil)) (re_slice (re_var 0) (rp_some re_int) rp_none))))) rss_nil)
    (rss_cons (rs_if (rt_c (rc_eq (L := 64) hu (re_var 3) re_int)) (rss_one (rs_ret (re_add (re_var 0) (re_tup (ra_cons (re_ix (re_var 0) re_int) ra_nil))))) rss_nil)
    (rss_cons (rs_if (rt_c (rc_eq (L := 64) hu (re_var 3) re_int)) (rss_one (rs_ret (re_slice (re_var 0) rp_none (rp_some (re_neg re_int))))) rss_nil)
    (rss_cons (rs_if (rt_c (rc_eq (L := 64) hu (re_var 3) re_int)) (rss_one (rs_ret (re_L (rl_callTy call_list_of s_list rfl mb_list (by decide +kernel) (ra_cons (re_var 0) ra_nil))))) rss_nil)
    (rss_cons (rs_if (rt_c (rc_eq (L := 64) hu (re_var 3) re_int)) (rss_one (rs_ret (re_ix (re_L (rl_lst (ra_cons re_non (ra_cons (re_tup ra_nil) (ra_cons re_str (ra_cons re_int (ra_cons re_bl ra_nil))))))) (re_mod (re_var 4) re_int)))) rss_nil)
    (rss_cons (rs_set 5 nd (re_L (rl_lst (ra_cons re_int (ra_cons (re_neg re_int) (ra_cons re_bl (ra_cons re_str (ra_cons re_non ra_nil))))))))
    (rss_cons (rs_if (rt_c (rc_eq (L := 64) hu (re_ix (re_var 0) re_int) re_str)) (rss_one (rs_set 5 nd (re_L (rl_lst (ra_cons (re_pow re_int re_int) (ra_cons (re_neg (re_pow re_int re_int)) (ra_cons re_bl (ra_cons re_str (ra_cons re_non ra_nil))))))))) rss_nil)
    (rss_cons (rs_if (rt_c (rc_eq (L := 64) hu (re_ix (re_var 0) re_int) re_str)) (rss_one (rs_set 5 nd (re_L (rl_lst (ra_cons re_str (ra_cons re_str (ra_cons re_str (ra_cons re_str (ra_cons re_str (ra_cons re_str (ra_cons re_non (ra_cons re_int ra_nil)))))))))))) rss_nil)
    (rss_cons (rs_if (rt_c (rc_eq (L := 64) hu (re_ix (re_var 0) re_int) re_str)) (rss_one (rs_set 5 nd (re_L (rl_lst (ra_cons (re_tup (ra_cons re_str (ra_cons (re_pow re_int re_int) ra_nil))) (ra_cons (re_tup (ra_cons re_str (ra_cons re_str ra_nil))) (ra_cons re_non (ra_cons (re_L (rl_lst (ra_cons re_str (ra_cons re_int ra_nil)))) ra_nil)))))))) rss_nil)
    (rss_cons (rs_if (rt_w (rw_or (rt_c (rc_lt (re_var 3) re_int)) (rw_or (rt_c (rc_lt (re_callB call_lenX s_len rfl mb_len PySem.boot_len (ra_cons (re_var 0) ra_nil)) re_int)) (rw_or1 (rt_c (rc_notin (re_ix (re_var 0) re_int) (re_tup (ra_cons re_str (ra_cons re_str ra_nil))))))))) (rss_one (rs_ret (re_add (re_add (re_slice (re_var 0) rp_none (rp_some re_int)) (re_tup (ra_cons (re_ix (re_var 5) (re_mod (re_var 4) (re_callB call_lenX s_len rfl mb_len PySem.boot_len (ra_cons (re_var 5) ra_nil)))) ra_nil))) (re_slice (re_var 0) (rp_some re_int) rp_none)))) rss_nil)
    (rss_one (rs_ret (re_add (re_add (re_slice (re_var 0) rp_none (rp_some re_int)) (re_tup (ra_cons (re_ix (re_L (rl_lst (ra_cons re_str (ra_cons re_str (ra_cons re_str (ra_cons re_str (ra_cons re_non (ra_cons re_int ra_nil)))))))) (re_mod (re_var 4) re_int)) ra_nil))) (re_slice (re_var 0) (rp_some re_int) rp_none)))))))))))))))))⟩
set_option maxHeartbeats 4000000 in
theorem ok__law_told {k : Nat} {f : Addr} {fd : FuncData} {F : Fns} (hF : L2.Fun K "_law_told" "_law_told" s__law_told f fd) (hC : ∀ n, Cal P w K mg base C k (nmS n) (nmA n) (F n)) (mb : Mb K mg) : FnOk P w K mg base CX0 (k + 1) f fd ["_law_thing", "_law_good", "_law_names"] (spF C K 3 (fnD 5 (b__law_told F))) := by
  refine fn_ok hF sc__law_told rfl fun cdv A outer s H E hr => ?_
  have nd := sc__law_told.nd
  have hu := hr.units
  have hu1 := hu_of hr
  have mb_bool := mb.bool
  have mb_isinstance := mb.isinstance
  have c_is_closed : Cal P w K mg base C k "is_closed" 1 (F .is_closed) := hC .is_closed
  have c_is_piece : Cal P w K mg base C k "is_piece" 1 (F .is_piece) := hC .is_piece
  exact ⟨_, (rss_cons (rs_set 3 nd (re_call c_is_closed hr rfl (ra_cons (re_var 0) ra_nil)))
    (rss_cons (rs_set 4 nd (re_call c_is_piece hr rfl (ra_cons (re_var 0) ra_nil)))
    (rss_cons (rs_if (rt_w (rw_or (rt_not (rt_val (re_isi (T := "bool") (by decide) rfl mb_isinstance rfl mb_bool (by decide +kernel) (re_var 4)))) (rw_or (rt_c (rc_ne (L := 64) hu (re_var 4) (re_var 1))) (rw_or1 (rt_not (rt_val (re_isi (T := "bool") (by decide) rfl mb_isinstance rfl mb_bool (by decide +kernel) (re_var 3)))))))) (rss_one (rs_ret re_bl)) rss_nil)
    (rss_one (rs_ret (re_c (rc_eq (L := 64) hu (re_var 3) (re_and (re_var 1) (re_one (re_c (rc_eq (L := 64) hu (re_var 2) (re_L (rl_lst ra_nil)))))))))))))⟩
set_option maxHeartbeats 4000000 in
theorem ok__law_great {k : Nat} {f : Addr} {fd : FuncData} {F : Fns} (hF : L2.Fun K "_law_great" "_law_great" s__law_great f fd) (hC : ∀ n, Cal P w K mg base C k (nmS n) (nmA n) (F n)) (mb : Mb K mg) : FnOk P w K mg base CX0 (k + 1) f fd ["_law_cell"] (spF C K 1 (fnD 7 (b__law_great F))) := by
  refine fn_ok hF sc__law_great rfl fun cdv A outer s H E hr => ?_
  have nd := sc__law_great.nd
  have hu := hr.units
  have hu1 := hu_of hr
  have mb_len := mb.len
  have mb_range := mb.range
  have c__law_told : Cal P w K mg base C k "_law_told" 3 (F ._law_told) := hC ._law_told
  exact ⟨_, (rss_cons (rs_if (rt_c (rc_eq (L := 64) hu (re_mod (re_div (re_var 0) re_int) re_int) re_int)) (rss_cons (rs_set 2 nd (re_tup (ra_cons re_str (ra_cons (re_mod (re_var 0) re_int) ra_nil))))
    (rss_cons (rs_for PassesOwn.never rfl (ri_range1 rfl mb_range (ra_cons (re_add re_int (re_mod (re_div (re_var 0) re_int) re_int)) ra_nil)) (rg_name (vs := [5]) 5 (by decide) nd) (rss_one (rs_set 2 nd (re_ix (re_L (rl_lst (ra_cons (re_tup (ra_cons re_str (ra_cons re_int (ra_cons (re_var 2) (ra_cons (re_var 2) ra_nil))))) (ra_cons (re_tup (ra_cons re_str (ra_cons re_int (ra_cons (re_var 2) (ra_cons (re_tup (ra_cons re_str (ra_cons re_int ra_nil))) (ra_cons (re_var 2) ra_nil)))))) ra_nil)))) (re_mod (re_var 5) re_int)))))
    (rss_one (rs_ret (re_call c__law_told hr rfl (ra_cons (re_var 2) (ra_cons re_bl (ra_cons (re_L (rl_lst ra_nil)) ra_nil)))))))) rss_nil)
    (rss_cons (rs_set 1 nd (re_add re_int (re_mod (re_div (re_var 0) re_int) re_int)))
    (rss_cons (rs_if (rt_c (rc_eq (L := 64) hu (re_mod (re_div (re_var 0) re_int) re_int) re_int)) (rss_one (rs_set 1 nd (re_add re_int (re_mod (re_div (re_var 0) re_int) re_int)))) rss_nil)
    (rss_cons (rs_set 2 nd (re_tup (ra_cons re_str (ra_cons (re_mod (re_var 0) re_int) ra_nil))))
    (rss_cons (rs_if (rt_c (rc_lt (re_mod (re_var 0) re_int) re_int)) (rss_cons (rs_for PassesOwn.never rfl (ri_range1 rfl mb_range (ra_cons (re_var 1) ra_nil)) (rg_name (vs := [5]) 5 (by decide) nd) (rss_one (rs_set 2 nd (re_ix (re_L (rl_lst (ra_cons (re_tup (ra_cons re_str (ra_cons (re_var 2) ra_nil))) (ra_cons (re_tup (ra_cons re_str (ra_cons (re_var 5) (ra_cons re_str (ra_cons (re_var 2) ra_nil))))) ra_nil)))) (re_mod (re_var 0) re_int)))))
    (rss_one (rs_ret (re_call c__law_told hr rfl (ra_cons (re_var 2) (ra_cons (re_c (rc_lt (re_var 1) re_int)) (ra_cons (re_L (rl_lst ra_nil)) ra_nil))))))) rss_nil)
    (rss_cons (rs_set 3 nd (re_L (rl_lc rfl nd (own := [("_law_k", 5)]) (ri_range1 rfl mb_range (ra_cons (re_sub re_int (re_mod (re_div (re_var 0) re_int) re_int)) ra_nil)) (RB.mk (own := [("_law_k", 5)]) (blkOk_by (own := [("_law_k", 5)]) (N := ["_law_cell", "_law_many", "_law_piece_here", "_law_row", "_law_knots", "_law_k", "_law_pairs"]) (sc := defScope s__law_great) (by decide +kernel)) (fun _ _ _ _ _ => ⟨_, (rg_name (vs := [5]) 5 (by decide) nd)⟩) (fun _ _ _ _ _ => ⟨_, rts_nil⟩) (fun _ _ _ _ _ => ⟨_, (re_tup (ra_cons re_str (ra_cons (re_var 5) ra_nil)))⟩)))))
    (rss_cons (rs_while PassesOwn.never (rt_c (rc_gt (re_callB call_lenX s_len rfl mb_len PySem.boot_len (ra_cons (re_var 3) ra_nil)) re_int)) (rss_cons (rs_lc 6 rfl nd (own := [("_law_k", 5)]) (ri_range3 rfl mb_range (ra_cons re_int (ra_cons (re_sub (re_callB call_lenX s_len rfl mb_len PySem.boot_len (ra_cons (re_var 3) ra_nil)) re_int) (ra_cons re_int ra_nil)))) (RB.mk (own := [("_law_k", 5)]) (blkOk_by (own := [("_law_k", 5)]) (N := ["_law_cell", "_law_many", "_law_piece_here", "_law_row", "_law_knots", "_law_k", "_law_pairs"]) (sc := defScope s__law_great) (by decide +kernel)) (fun _ _ _ _ _ => ⟨_, (rg_name (vs := [5]) 5 (by decide) nd)⟩) (fun _ _ _ _ _ => ⟨_, rts_nil⟩) (fun _ _ _ _ _ => ⟨_, (re_tup (ra_cons re_str (ra_cons re_int (ra_cons (re_ix (re_var 3) (re_var 5)) (ra_cons (re_ix (re_var 3) (re_add (re_var 5) re_int)) ra_nil)))))⟩)) (hsw := sw_true rfl rfl rfl (by decide +kernel)))
    (rss_one (rs_set 3 nd (re_add (re_var 6) (re_slice (re_var 3) (rp_some (re_mul re_int (re_callB call_lenX s_len rfl mb_len PySem.boot_len (ra_cons (re_var 6) ra_nil)))) rp_none))))))
    (rss_cons (rs_if (rt_c (rc_eq (L := 64) hu (re_mod (re_div (re_var 0) re_int) re_int) re_int)) (rss_one (rs_set 3 nd (re_L (rl_lst (ra_cons (re_tup (ra_cons re_str (ra_cons (re_ix (re_var 3) re_int) ra_nil))) ra_nil))))) rss_nil)
    (rss_cons (rs_if (rt_c (rc_eq (L := 64) hu (re_mod (re_div (re_var 0) re_int) re_int) re_int)) (rss_one (rs_set 3 nd (re_L (rl_lst (ra_cons (re_tup (ra_cons re_str (ra_cons (re_ix (re_var 3) re_int) ra_nil))) ra_nil))))) rss_nil)
    (rss_cons (rs_set 4 nd (re_add (re_add (re_sub re_int (re_mul re_int (re_mod (re_div (re_var 0) re_int) re_int))) (re_mod (re_div (re_var 0) re_int) re_int)) (re_mod (re_div (re_var 0) re_int) re_int)))
    (rss_one (rs_ret (re_call c__law_told hr rfl (ra_cons (re_ix (re_var 3) re_int) (ra_cons (re_c (rc_lt (re_var 4) re_int)) (ra_cons (re_L (rl_lst ra_nil)) ra_nil))))))))))))))))⟩
set_option maxHeartbeats 4000000 in
theorem ok_law {k : Nat} {f : Addr} {fd : FuncData} {F : Fns} (hF : L2.Fun K "law" "law" s_law f fd) (hC : ∀ n, Cal P w K mg base C k (nmS n) (nmA n) (F n)) (mb : Mb K mg) : FnOk P w K mg base CX0 (k + 1) f fd ["_law_script"] (spF C K 1 (fnD 10 (b_law F))) := by
  refine fn_ok hF sc_law rfl fun cdv A outer s H E hr => ?_
  have nd := sc_law.nd
  have hu := hr.units
  have hu1 := hu_of hr
  have mb_isinstance := mb.isinstance
  have mb_len := mb.len
  have mb_list := mb.list
  have mb_range := mb.range
  have mb_set := mb.set
  have mb_sorted := mb.sorted
  have c__law_cell_at : Cal P w K mg base C k "_law_cell_at" 2 (F ._law_cell_at) := hC ._law_cell_at
  have c__law_changed : Cal P w K mg base C k "_law_changed" 3 (F ._law_changed) := hC ._law_changed
  have c__law_free : Cal P w K mg base C k "_law_free" 1 (F ._law_free) := hC ._law_free
  have c__law_great : Cal P w K mg base C k "_law_great" 1 (F ._law_great) := hC ._law_great
  have c__law_made : Cal P w K mg base C k "_law_made" 4 (F ._law_made) := hC ._law_made
  have c__law_mark_by : Cal P w K mg base C k "_law_mark_by" 1 (F ._law_mark_by) := hC ._law_mark_by
  have c__law_mixed : Cal P w K mg base C k "_law_mixed" 1 (F ._law_mixed) := hC ._law_mixed
  have c__law_name_by : Cal P w K mg base C k "_law_name_by" 1 (F ._law_name_by) := hC ._law_name_by
  have c__law_places : Cal P w K mg base C k "_law_places" 1 (F ._law_places) := hC ._law_places
  have c__law_told : Cal P w K mg base C k "_law_told" 3 (F ._law_told) := hC ._law_told
  have c_free_names : Cal P w K mg base C k "free_names" 1 (F .free_names) := hC .free_names
  exact ⟨_, (rss_cons (rs_set 1 nd (re_call c__law_mixed hr rfl (ra_cons (re_call c__law_cell_at hr rfl (ra_cons (re_var 0) (ra_cons re_int ra_nil))) ra_nil)))
    (rss_cons (rs_lc 2 rfl nd (own := [("_law_k", 4)]) (ri_range1 rfl mb_range (ra_cons (re_mul (re_mod (re_var 1) re_int) re_int) ra_nil)) (RB.mk (own := [("_law_k", 4)]) (blkOk_by (own := [("_law_k", 4)]) (N := ["_law_script", "_law_cell", "_law_scope", "_law_piece_here", "_law_k", "_law_due", "_law_found", "_law_places_here", "_law_mix", "_law_wrong"]) (sc := defScope s_law) (by decide +kernel)) (fun _ _ _ _ _ => ⟨_, (rg_name (vs := [4]) 4 (by decide) nd)⟩) (fun _ _ _ _ _ => ⟨_, rts_nil⟩) (fun _ _ _ _ _ => ⟨_, (re_call c__law_name_by hr rfl (ra_cons (re_call c__law_mixed hr rfl (ra_cons (re_add (re_call c__law_cell_at hr rfl (ra_cons (re_var 0) (ra_cons re_int ra_nil))) (re_var 4)) ra_nil)) ra_nil))⟩)) (hsw := sw_true rfl rfl rfl (by decide +kernel)))
    (rss_cons (rs_set 3 nd (re_call c__law_made hr rfl (ra_cons (re_var 0) (ra_cons (re_LM (rl_lst (ra_cons re_int ra_nil))) (ra_cons (re_add re_int (re_mod (re_div (re_var 1) re_int) re_int)) (ra_cons (re_var 2) ra_nil))))))
    (rss_cons (rs_for PassesOwn.never rfl (ri_range1 rfl mb_range (ra_cons (re_ix (re_L (rl_lst (ra_cons re_int (ra_cons re_int (ra_cons re_int (ra_cons re_int ra_nil)))))) (re_mod (re_div (re_var 1) re_int) re_int)) ra_nil)) (rg_name (vs := [4]) 4 (by decide) nd) (rss_one (rs_set 3 nd (re_tup (ra_cons re_str (ra_cons (re_call c__law_mark_by hr rfl (ra_cons (re_add (re_var 1) (re_var 4)) ra_nil)) (ra_cons (re_tup (ra_cons re_str (ra_cons (re_var 4) ra_nil))) (ra_cons (re_var 3) ra_nil))))))))
    (rss_cons (rs_set 5 nd (re_L (rl_sset rfl rfl mb_sorted rfl mb_set (ra_cons (re_call c__law_free hr rfl (ra_cons (re_var 3) ra_nil)) ra_nil))))
    (rss_cons (rs_set 6 nd (re_call c_free_names hr rfl (ra_cons (re_var 3) ra_nil)))
    (rss_cons (rs_if (rt_w (rw_or (rt_not (rt_val (re_isi (T := "list") (by decide) rfl mb_isinstance rfl mb_list (by decide +kernel) (re_var 6)))) (rw_or (rt_c (rc_ne (L := 64) hu (re_var 6) (re_var 5))) (rw_or1 (rt_not (rt_val (re_call c__law_told hr rfl (ra_cons (re_var 3) (ra_cons re_bl (ra_cons (re_var 5) ra_nil)))))))))) (rss_one (rs_ret re_bl)) rss_nil)
    (rss_cons (rs_if (rt_c (rc_eq (L := 64) hu (re_mod (re_call c__law_cell_at hr rfl (ra_cons (re_var 0) (ra_cons re_int ra_nil))) re_int) re_int)) (rss_one (rs_ret (re_call c__law_great hr rfl (ra_cons (re_mod (re_div (re_call c__law_mixed hr rfl (ra_cons (re_call c__law_cell_at hr rfl (ra_cons (re_var 0) (ra_cons re_int ra_nil))) ra_nil)) re_int) re_int) ra_nil)))) rss_nil)
    (rss_cons (rs_set 7 nd (re_call c__law_places hr rfl (ra_cons (re_var 3) ra_nil)))
    (rss_cons (rs_set 8 nd (re_call c__law_mixed hr rfl (ra_cons (re_call c__law_cell_at hr rfl (ra_cons (re_var 0) (ra_cons re_int ra_nil))) ra_nil)))
    (rss_cons (rs_set 9 nd (re_call c__law_changed hr rfl (ra_cons (re_var 3) (ra_cons (re_ix (re_var 7) (re_mod (re_var 8) (re_callB call_lenX s_len rfl mb_len PySem.boot_len (ra_cons (re_var 7) ra_nil)))) (ra_cons (re_add (re_div (re_var 8) re_int) (re_mul re_int (re_mod (re_var 8) re_int))) ra_nil)))))
    (rss_one (rs_ret (re_call c__law_told hr rfl (ra_cons (re_var 9) (ra_cons re_bl (ra_cons (re_L (rl_lst ra_nil)) ra_nil)))))))))))))))))⟩
end
def zEv := @ev
theorem at0 {α : Type} {a : α} {l : List α} : atI (a :: l) 0 = some a := atI_nat (j := 0) rfl
theorem at1 {α : Type} {a b : α} {l : List α} : atI (a :: b :: l) 1 = some b := atI_nat (j := 1) rfl
theorem at2 {α : Type} {a b c : α} {l : List α} : atI (a :: b :: c :: l) 2 = some c := atI_nat (j := 2) rfl
theorem at3 {α : Type} {a b c d : α} {l : List α} : atI (a :: b :: c :: d :: l) 3 = some d := atI_nat (j := 3) rfl
theorem at4 {α : Type} {a b c d e : α} {l : List α} : atI (a :: b :: c :: d :: e :: l) 4 = some e := atI_nat (j := 4) rfl
theorem drop1 (a : D) (r : List D) : cutD (a :: r) (some 1) none = r := by simp [cutD, HT.sIx]
theorem Fk_s (k : Nat) (n : Nm) : Fk (k + 1) n = bodies (Fk k) n := rfl
theorem lev {k : Nat} (h : 1 ≤ k) : ∃ j, k = j + 1 := ⟨k - 1, by omega⟩
/-! ## the law's drawing of pieces -/
def cell (ns : List Int) (i : Int) : Int := if i < ns.length then (atI ns i).getD 0 else 0
theorem cell_D {k : Nat} (hk : 1 ≤ k) (ns : List Int) (i : Int) (h : 0 ≤ i) (S : List O) : Fk k ._law_cell_at [.scr ns, .int i] S = some (.int (cell ns i), S) := by
  obtain ⟨k, rfl⟩ := lev hk
  rw [Fk_s]
  by_cases hi : i < ns.length
  · obtain ⟨x, h1, _⟩ := atI_in h hi
    simp [bodies, zEv, List.map_cons, List.map_nil, List.length_cons, List.length_nil, List.cons_append, List.nil_append, List.append_nil, List.getElem?_cons_zero, List.getElem?_cons_succ, List.set_cons_zero, List.set_cons_succ, ofString_inj, ofString_beq, hi, atI_map, h1, cell]
  · simp [bodies, zEv, List.map_cons, List.map_nil, List.length_cons, List.length_nil, List.cons_append, List.nil_append, List.append_nil, List.getElem?_cons_zero, List.getElem?_cons_succ, List.set_cons_zero, List.set_cons_succ, ofString_inj, ofString_beq, hi, cell]
def mixed (n : Int) : Int := ((n * 48271 + 7919) % 2147483647 * ((n * 48271 + 7919) % 2147483647) + (n * 48271 + 7919) % 2147483647 / 7) % 2147483647
theorem mixed_b (n : Int) : 0 ≤ mixed n ∧ mixed n < 2147483647 := ⟨Int.emod_nonneg _ (by decide), Int.emod_lt_of_pos _ (by decide)⟩
theorem mixed_D {k : Nat} (hk : 1 ≤ k) (n : Int) (S : List O) : Fk k ._law_mixed [.int n] S = some (.int (mixed n), S) := by
  obtain ⟨k, rfl⟩ := lev hk
  rw [Fk_s]
  have h1 : 0 ≤ (n * 48271 + 7919) % 2147483647 := Int.emod_nonneg _ (by decide)
  have h2 : (n * 48271 + 7919) % 2147483647 < 2147483647 := Int.emod_lt_of_pos _ (by decide)
  have e2 : ∀ S, dMul (.int ((n * 48271 + 7919) % 2147483647)) (.int ((n * 48271 + 7919) % 2147483647)) S = some (.int ((n * 48271 + 7919) % 2147483647 * ((n * 48271 + 7919) % 2147483647))) := fun S => dMul_l (by omega)
  simp [bodies, zEv, List.map_cons, List.map_nil, List.length_cons, List.length_nil, List.cons_append, List.nil_append, List.append_nil, List.getElem?_cons_zero, List.getElem?_cons_succ, List.set_cons_zero, List.set_cons_succ, ofString_inj, ofString_beq, e2, mixed]
theorem mark_D {k : Nat} (hk : 1 ≤ k) (n : Int) (S : List O) : ∃ a, Fk k ._law_mark_by [.int n] S = some (.int a, S) ∧ 0 ≤ a ∧ a ≤ 9999 := by
  obtain ⟨k, rfl⟩ := lev hk
  rw [Fk_s]
  by_cases h : n % 2 = 0
  · exact ⟨n / 2 % 10000, by simp [bodies, zEv, List.map_cons, List.map_nil, List.length_cons, List.length_nil, List.cons_append, List.nil_append, List.append_nil, List.getElem?_cons_zero, List.getElem?_cons_succ, List.set_cons_zero, List.set_cons_succ, ofString_inj, ofString_beq, h], by omega, by omega⟩
  · exact ⟨n / 2 % 6, by simp [bodies, zEv, List.map_cons, List.map_nil, List.length_cons, List.length_nil, List.cons_append, List.nil_append, List.append_nil, List.getElem?_cons_zero, List.getElem?_cons_succ, List.set_cons_zero, List.set_cons_succ, ofString_inj, ofString_beq, h], by omega, by omega⟩
theorem range_lst (n : Nat) (f : Int → Nat) : (rangeD 0 n).map (fun d => match d with | .int i => D.str ⟨#[f i]⟩ | _ => .non) = ((List.range n).map fun (i : Nat) => f (i : Int)).map fun c => D.str ⟨#[c]⟩ := by
  unfold rangeD
  have e : ((n : Int) - 0).toNat = n := by omega
  rw [e]
  simp
theorem name_D {k : Nat} (hk : 1 ≤ k) (n : Int) (S : List O) : ∃ x, Fk k ._law_name_by [.int n] S = some (.str x, S) ∧ nmOk x := by
  obtain ⟨k, rfl⟩ := lev hk
  rw [Fk_s]
  by_cases h : n % 3 = 0
  · obtain ⟨c, h1, h2⟩ := letter_at S (i := n / 3 % 4) (by omega) (by omega)
    refine ⟨⟨#[c]⟩, by simp [bodies, zEv, List.map_cons, List.map_nil, List.length_cons, List.length_nil, List.cons_append, List.nil_append, List.append_nil, List.getElem?_cons_zero, List.getElem?_cons_succ, List.set_cons_zero, List.set_cons_succ, ofString_inj, ofString_beq, h, h1], ?_, ?_, ?_⟩
    · show 1 ≤ 1; decide
    · show 1 ≤ 8; decide
    · intro x hx
      have : x = c := by simpa using hx
      subst this; omega
  · -- the row of letters
    have hz : ∃ z : Nat, 1 + n / 3 % 8 = (z : Int) ∧ 1 ≤ z ∧ z ≤ 8 := ⟨(1 + n / 3 % 8).toNat, by omega, by omega, by omega⟩
    obtain ⟨z, ez, z1, z8⟩ := hz
    have hc : ∀ i : Int, ∃ c : Nat, (∀ S, dIx (.str "abcdefghijklmnopqrstuvwxyz") (.int ((n / 24 + 5 * i) % 26)) S = some (.str ⟨#[c]⟩)) ∧ 97 ≤ c ∧ c ≤ 122 := fun i => by
      obtain ⟨c, h1, h2⟩ := letter_at S (i := (n / 24 + 5 * i) % 26) (by omega) (by omega)
      exact ⟨c, fun S' => by rw [← h1]; rfl, h2⟩
    obtain ⟨f, hf⟩ : ∃ f : Int → Nat, ∀ i, (∀ S, dIx (.str "abcdefghijklmnopqrstuvwxyz") (.int ((n / 24 + 5 * i) % 26)) S = some (.str ⟨#[f i]⟩)) ∧ 97 ≤ f i ∧ f i ≤ 122 := ⟨fun i => (hc i).choose, fun i => (hc i).choose_spec⟩
    have hl : lcD (gdName 5) tTrue (eOp dIx (eVar 1) (eOp (dInt gMod) (eOp dAdd (eOp (dInt gDiv) (eVar 0) (eC (.int 24))) (eOp dMul (eC (.int 5)) (eVar 5))) (eC (.int 26))))
        [some (.int n), some (.str "abcdefghijklmnopqrstuvwxyz"), some (.int (z : Int)), none, none, none] (rangeD 0 z) S = some (((List.range z).map fun (i : Nat) => f (i : Int)).map fun c => D.str ⟨#[c]⟩, S) := by
      rw [← range_lst]
      refine lcD_map _ fun d hd => ?_
      unfold rangeD at hd
      obtain ⟨i, _, e⟩ := List.mem_map.mp hd
      subst e
      simp [zEv, List.map_cons, List.map_nil, List.length_cons, List.length_nil, List.cons_append, List.nil_append, List.append_nil, List.getElem?_cons_zero, List.getElem?_cons_succ, List.set_cons_zero, List.set_cons_succ, ofString_inj, ofString_beq, (hf _).1]
    obtain ⟨c, h1, h2⟩ := letter_at S (i := n / 5 % 26) (by omega) (by omega)
    have hrow := join_cps ((List.range z).map fun (i : Nat) => f (i : Int))
    have hj := dJoin_ones S ((List.range z).map fun (i : Nat) => f (i : Int)) (by simp; omega)
    generalize Txt.join "" (((List.range z).map fun (i : Nat) => f (i : Int)).map fun c => (⟨#[c]⟩ : Str)) = row at hrow hj
    generalize (((List.range z).map fun (i : Nat) => f (i : Int)).map fun c => D.str ⟨#[c]⟩) = L at hl hj
    have rl : row.length = z := by rw [str_len, hrow]; simp
    have ra : ∀ c ∈ row.cps.toList, 97 ≤ c ∧ c ≤ 122 := by
      intro c hc
      rw [hrow] at hc
      obtain ⟨i, _, e⟩ := List.mem_map.mp hc
      subst e
      exact (hf _).2
    have hd : ∃ a : Nat, n / 624 % (z : Int) = (a : Int) ∧ a < z := by
      have q1 := Int.emod_nonneg (n / 624) (show (z : Int) ≠ 0 by omega)
      have q2 := Int.emod_lt_of_pos (n / 624) (show (0 : Int) < z by omega)
      exact ⟨(n / 624 % (z : Int)).toNat, by omega, by omega⟩
    obtain ⟨a, ea, az⟩ := hd
    have c1 : (cutS row none (some (a : Int))).cps.toList = row.cps.toList.take a := by
      rw [cutS_cps]
      unfold cutD
      rw [← str_len, rl, HT.sIx_none, HT.sIx_nat]
      simp
      omega
    have c2 : (cutS row (some ((a : Int) + 1)) none).cps.toList = row.cps.toList.drop (a + 1) := by
      rw [cutS_cps]
      unfold cutD
      have e : (a : Int) + 1 = ((a + 1 : Nat) : Int) := by omega
      rw [← str_len, rl, HT.sIx_none, e, HT.sIx_nat]
      have e2 : min (a + 1) z = a + 1 := by omega
      rw [e2]
      apply List.take_of_length_le
      rw [List.length_drop, ← str_len, rl]
      omega
    have l1 : (cutS row none (some (a : Int))).length = a := by rw [str_len, c1, List.length_take, ← str_len, rl]; omega
    have l2 : (cutS row (some ((a : Int) + 1)) none).length = z - (a + 1) := by rw [str_len, c2, List.length_drop, ← str_len, rl]
    have lc : (⟨#[c]⟩ : Str).length = 1 := rfl
    have l3 : (cutS row none (some (a : Int)) ++ (⟨#[c]⟩ : Str)).length = a + 1 := by rw [str_len, app_cps, List.length_append, ← str_len, ← str_len, l1, lc]
    refine ⟨cutS row none (some (a : Int)) ++ ⟨#[c]⟩ ++ cutS row (some ((a : Int) + 1)) none, ?_, ?_, ?_, ?_⟩
    · have zb : (z : Int) < 4611686018427387904 := by omega
      have zp : (0 : Int) < (z : Int) := by omega
      have zq : z ≤ 10000000 := by omega
      have zn : 0 < z := by omega
      have g1 : z ≤ 16777216 := by omega
      have g2 : a + 1 ≤ 16777216 := by omega
      have g3 : a + 1 + (z - (a + 1)) ≤ 16777216 := by omega
      simp [bodies, zEv, List.map_cons, List.map_nil, List.length_cons, List.length_nil, List.cons_append, List.nil_append, List.append_nil, List.getElem?_cons_zero, List.getElem?_cons_succ, List.set_cons_zero, List.set_cons_succ, ofString_inj, ofString_beq, h, ez, ea, hl, hj, h1, rl, l1, l2, l3, lc, sizeLine_eq, zb, zp, zq, zn, rangeD_len, g1, g2, g3]
    · rw [str_len, app_cps, List.length_append, ← str_len, ← str_len, l3, l2]; omega
    · rw [str_len, app_cps, List.length_append, ← str_len, ← str_len, l3, l2]; omega
    · intro x hx
      rw [app_cps, app_cps, c1, c2] at hx
      rcases List.mem_append.mp hx with hx | hx
      · rcases List.mem_append.mp hx with hx | hx
        · exact ra x (List.mem_of_mem_take hx)
        · have : x = c := by simpa using hx
          subst this; omega
      · exact ra x (List.mem_of_mem_drop hx)
/-! ## what is drawn -/
def markOk (a : Int) : Prop := 0 ≤ a ∧ a ≤ 9999
def wf : Pc → List Str → Prop
  | .num n, _ => -1000000000000 < n ∧ n < 1000000000000
  | .name x, sc => x ∈ sc ∧ nmOk x
  | .fn a x b, sc => markOk a ∧ nmOk x ∧ wf b (x :: sc)
  | .call a f g, sc => markOk a ∧ wf f sc ∧ wf g sc
  | .plus a f g, sc => markOk a ∧ wf f sc ∧ wf g sc
  | .pick a c f g, sc => markOk a ∧ wf c sc ∧ wf f sc ∧ wf g sc
  | .rnd b, sc => wf b sc
  | .take a x b, sc => markOk a ∧ nmOk x ∧ wf b (x :: sc)
  | .shut .., _ => False
  | .kept .., _ => False
def kn : Pc → Nat
  | .fn _ _ b => kn b + 1
  | .call _ f g => kn f + kn g + 1
  | .plus _ f g => kn f + kn g + 1
  | .pick _ c f g => kn c + kn f + kn g + 1
  | .rnd b => kn b + 1
  | .take _ _ b => kn b + 1
  | _ => 1
theorem kn_pos : ∀ p : Pc, 1 ≤ kn p := by intro p; cases p <;> simp [kn]
def sD (sc : List Str) : D := .lst (sc.map D.str)
def StS (S : List O) (j : Nat) (s : Int) : List O := S.set j (.lst [.int s])
theorem StS_len (S : List O) (j : Nat) (s : Int) : (StS S j s).length = S.length := List.length_set
theorem StS_ok {S : List O} (h : okS S) (j : Nat) (s : Int) : okS (StS S j s) := okS_set h j s
theorem StS_ix {S : List O} {j : Nat} (h : j < S.length) (s : Int) : dIx (.ref j) (.int 0) (StS S j s) = some (.int s) := by
  unfold dIx StS
  simp [seqL, h, atI, ixN]
theorem StS_put {S : List O} {j : Nat} (h : j < S.length) (s v : Int) : setO (StS S j s) (.ref j) (stF (.int v) 0) = some (StS S j v) := by
  unfold setO StS
  simp [h, stF, ixN]
theorem dNe_nil {sc : List Str} (h : ∀ x ∈ sc, nmOk x) (S : List O) : dNe 64 (sD sc) (.lst []) S = some (.bl (!sc.isEmpty)) := by
  have e : ∀ sc : List Str, (∀ x ∈ sc, nmOk x) → PyData.canLayAll0 (pyL (sc.map D.str)) = true := by
    intro sc
    induction sc with
    | nil => intro _; rfl
    | cons x sc ih =>
      intro h
      simp only [List.map_cons, pyL, py, PyData.canLayAll0, PyData.canLay0, Bool.and_eq_true]
      exact ⟨nm_strOk (h x List.mem_cons_self), ih fun y hy => h y (List.mem_cons_of_mem _ hy)⟩
  unfold dNe dEqv sD
  simp only [pyS, py, PyData.canLay0, e sc h, pyL, PyData.canLayAll0, PyData.depth, PyData.depthAll]
  rw [if_pos ⟨trivial, trivial, by omega⟩]
  cases sc <;> simp [PyData.eqv, PyData.eqvAll, pyL]
theorem sD_cons (x : Str) (sc : List Str) : D.lst (D.str x :: sc.map D.str) = sD (x :: sc) := rfl
theorem sD_ix {sc : List Str} {i : Int} (h0 : 0 ≤ i) (h1 : i < sc.length) : ∃ x, x ∈ sc ∧ ∀ S, dIx (sD sc) (.int i) S = some (.str x) := by
  obtain ⟨x, h2, h3⟩ := atI_in h0 h1
  exact ⟨x, h3, fun S => by show atI (sc.map D.str) i = _; rw [atI_map, h2]; rfl⟩
theorem sD_len (sc : List Str) (S : List O) : bLen [sD sc] S = some (.int sc.length) := by
  show some (D.int ((sc.map D.str).length : Int)) = _
  rw [List.length_map]
theorem sD_add (x : Str) (sc : List Str) (h : sc.length ≤ 1000) (S : List O) : dAdd (.lst [.str x]) (sD sc) S = some (sD (x :: sc)) := by
  unfold sD
  rw [dAdd_l, if_pos (by simp; have := le_size (n := 1 + sc.length) ; rw [sizeLine_eq]; omega)]
  rfl
theorem leaf_D {k : Nat} (hk : 1 ≤ k) (n : Int) (h0 : 0 ≤ n) (sc : List Str) (hs : ∀ x ∈ sc, nmOk x) (S : List O) : ∃ p : Pc, Fk k ._law_leaf [.int n, sD sc] S = some (p.d, S) ∧ wf p sc ∧ cd p = 1 ∧ kn p = 1 := by
  obtain ⟨k, rfl⟩ := lev hk
  rw [Fk_s]
  have en := dNe_nil hs
  have num2 : ∃ p : Pc, (b__law_leaf (Fk k)) [some (.int n), some (sD sc)] S = some (.rt p.d S) ∧ wf p sc ∧ cd p = 1 ∧ kn p = 1 ∨ (sc.isEmpty = false ∧ n % 3 > 0) := by
    by_cases hc : sc.isEmpty = false ∧ n % 3 > 0
    · exact ⟨.num 0, .inr hc⟩
    · by_cases h11 : n % 11 = 0
      · refine ⟨.num (n * 65537 % (2 * 10 ^ 12 - 1) - 10 ^ 12 + 1), .inl ⟨?_, ?_, rfl, rfl⟩⟩
        · cases he : sc.isEmpty with
          | true => simp [zEv, List.map_cons, List.map_nil, List.length_cons, List.length_nil, List.cons_append, List.nil_append, List.append_nil, List.getElem?_cons_zero, List.getElem?_cons_succ, List.set_cons_zero, List.set_cons_succ, ofString_inj, ofString_beq, en, he, h11, Pc.d]
          | false =>
            have h3 : ¬ n % 3 > 0 := fun z => hc ⟨he, z⟩
            simp [zEv, List.map_cons, List.map_nil, List.length_cons, List.length_nil, List.cons_append, List.nil_append, List.append_nil, List.getElem?_cons_zero, List.getElem?_cons_succ, List.set_cons_zero, List.set_cons_succ, ofString_inj, ofString_beq, en, he, h11, Pc.d, h3]
        · show _ < _ ∧ _ < _
          have q1 := Int.emod_nonneg (n * 65537) (show (2 * 10 ^ 12 - 1 : Int) ≠ 0 by decide)
          have q2 := Int.emod_lt_of_pos (n * 65537) (show (0 : Int) < 2 * 10 ^ 12 - 1 by decide)
          have q3 : (10 : Int) ^ 12 = 1000000000000 := by decide
          rw [q3] at q1 q2 ⊢
          omega
      · refine ⟨.num (n / 3 % 7 - 2), .inl ⟨?_, ?_, rfl, rfl⟩⟩
        · cases he : sc.isEmpty with
          | true => simp [zEv, List.map_cons, List.map_nil, List.length_cons, List.length_nil, List.cons_append, List.nil_append, List.append_nil, List.getElem?_cons_zero, List.getElem?_cons_succ, List.set_cons_zero, List.set_cons_succ, ofString_inj, ofString_beq, en, he, h11, Pc.d]
          | false =>
            have h3 : ¬ n % 3 > 0 := fun z => hc ⟨he, z⟩
            simp [zEv, List.map_cons, List.map_nil, List.length_cons, List.length_nil, List.cons_append, List.nil_append, List.append_nil, List.getElem?_cons_zero, List.getElem?_cons_succ, List.set_cons_zero, List.set_cons_succ, ofString_inj, ofString_beq, en, he, h11, Pc.d, h3]
        · show _ < _ ∧ _ < _
          omega
  obtain ⟨p, ⟨h1, h2⟩ | ⟨he, h3⟩⟩ := num2
  · refine ⟨p, ?_, h2⟩
    simp only [bodies, gcFn_u, fnD_u, List.map_cons, List.map_nil, List.length_cons, List.length_nil, List.cons_append, List.nil_append]
    rw [show List.replicate (2 - (0 + 1 + 1)) none = ([] : Sl) from rfl, h1]
    simp [fnK, gcK, gcF]
  · have hl : 0 < sc.length := by cases sc with | nil => cases he | cons _ _ => simp
    obtain ⟨x, hx, ix⟩ := sD_ix (sc := sc) (i := n / 3 % (sc.length : Int)) (Int.emod_nonneg _ (by omega)) (Int.emod_lt_of_pos _ (by omega))
    refine ⟨.name x, ?_, ⟨hx, hs x hx⟩, rfl, rfl⟩
    simp [bodies, zEv, List.map_cons, List.map_nil, List.length_cons, List.length_nil, List.cons_append, List.nil_append, List.append_nil, List.getElem?_cons_zero, List.getElem?_cons_succ, List.set_cons_zero, List.set_cons_succ, ofString_inj, ofString_beq, en, he, h3, Pc.d, sD_len, ix, hl]
def MadeOk (k : Nat) : Prop := ∀ (ns : List Int) (S : List O) (j : Nat) (deep s : Int) (sc : List Str), j < S.length → okS S → 0 ≤ s → 0 ≤ deep → (∀ x ∈ sc, nmOk x) → sc.length + 2 * deep.toNat ≤ 500 → 2 * deep.toNat + 3 ≤ k →
  ∃ p s', Fk k ._law_made [.scr ns, .ref j, .int deep, sD sc] (StS S j s) = some (p.d, StS S j s') ∧ s < s' ∧ wf p sc ∧ (cd p ≤ deep.toNat + 2 ∧ (deep = 0 → cd p ≤ 1)) ∧ kn p + 7 * (22 - s').toNat ≤ 1 + 7 * (22 - s).toNat
def GoneOk (k : Nat) : Prop := ∀ (ns : List Int) (S : List O) (j : Nat) (deep s : Int) (sc : List Str), j < S.length → okS S → 0 ≤ s → 0 ≤ deep → (∀ x ∈ sc, nmOk x) → sc ≠ [] → sc.length + 2 * deep.toNat ≤ 500 → 2 * deep.toNat + 4 ≤ k →
  ∃ p s', Fk k ._law_gone_on [.scr ns, .ref j, .int deep, sD sc] (StS S j s) = some (p.d, StS S j s') ∧ s < s' ∧ wf p sc ∧ (cd p ≤ deep.toNat + 2 ∧ (deep = 0 → cd p ≤ 1)) ∧ kn p + 7 * (22 - s').toNat ≤ 7 + 7 * (22 - s).toNat
theorem pcall (a : Int) (f g : Pc) : D.tup [.str "call", .int a, f.d, g.d] = (Pc.call a f g).d := by simp [Pc.d]
theorem pname (x : Str) : D.tup [.str "name", .str x] = (Pc.name x).d := by simp [Pc.d]
theorem pnum (n : Int) : D.tup [.str "num", .int n] = (Pc.num n).d := by simp [Pc.d]
theorem pplus (a : Int) (f g : Pc) : D.tup [.str "plus", .int a, f.d, g.d] = (Pc.plus a f g).d := by simp [Pc.d]
theorem pfn (a : Int) (x : Str) (g : Pc) : D.tup [.str "fun", .int a, .str x, g.d] = (Pc.fn a x g).d := by simp [Pc.d]
theorem ptake (a : Int) (x : Str) (g : Pc) : D.tup [.str "take", .int a, .str x, g.d] = (Pc.take a x g).d := by simp [Pc.d]
theorem prnd (g : Pc) : D.tup [.str "round", g.d] = (Pc.rnd g).d := by simp [Pc.d]
theorem ppick (a : Int) (c f g : Pc) : D.tup [.str "pick", .int a, c.d, f.d, g.d] = (Pc.pick a c f g).d := by simp [Pc.d]
theorem gone_D {k : Nat} (hm : MadeOk k) : GoneOk (k + 1) := by
  intro ns S j deep s sc hj ok hs hd hsc hne hl hk
  have ei := StS_ix hj s
  have ec := cell_D (k := k) (by omega) ns (s % 60) (Int.emod_nonneg _ (by decide)) (StS S j s)
  have em := mixed_D (k := k) (by omega) (cell ns (s % 60) + 104729) (StS S j s)
  obtain ⟨m0, m1⟩ := mixed_b (cell ns (s % 60) + 104729)
  generalize mixed (cell ns (s % 60) + 104729) = M at em m0 m1
  have hl0 : 0 < sc.length := by cases sc with | nil => exact absurd rfl hne | cons _ _ => simp
  obtain ⟨x0, hx0, ix0⟩ := sD_ix (sc := sc) (i := 0) (by decide) (by omega)
  rw [Fk_s]
  by_cases hc : 0 < M % 4 ∧ 2 < deep
  · obtain ⟨h4, h2⟩ := hc
    obtain ⟨p, s', eq, h1, hw, hcd, hkn⟩ := hm ns S j (deep - 2) s sc hj ok hs (by omega) hsc (by omega) (by omega)
    have n0 : ¬ M % 4 = 0 := by omega
    have d3 : ¬ deep < 3 := by omega
    by_cases c1 : M % 4 = 1
    · refine ⟨.call (M / 8 % 10000) (.name x0) (.call (M / 4 % 10000) (.name x0) p), s', ?_, h1, ?_, ?_, ?_⟩
      · simp [bodies, b__law_gone_on, b__law_gone_on_t1, b__law_gone_on_t2, b__law_gone_on_t3, b__law_gone_on_t4, zEv, List.map_cons, List.map_nil, List.length_cons, List.length_nil, List.cons_append, List.nil_append, List.append_nil, List.getElem?_cons_zero, List.getElem?_cons_succ, List.set_cons_zero, List.set_cons_succ, ofString_inj, ofString_beq, ei, ec, em, h4, h2, eq, n0, d3, c1, ix0, StS_len, gc_same, pcall, pname]
      · simp only [wf, markOk]
        exact ⟨by omega, ⟨hx0, hsc _ hx0⟩, by omega, ⟨hx0, hsc _ hx0⟩, hw⟩
      · simp only [cd]; omega
      · simp only [kn]; omega
    · by_cases c2 : M % 4 = 2
      · by_cases c3 : M / 4 % 2 = 0
        · refine ⟨.plus (M / 7 % 10000) (.call (M / 4 % 10000) (.name x0) p) (.call (M / 9 % 10000) (.name x0) (.num (M / 5 % 7))), s', ?_, h1, ?_, ?_, ?_⟩
          · simp [bodies, b__law_gone_on, b__law_gone_on_t1, b__law_gone_on_t2, b__law_gone_on_t3, b__law_gone_on_t4, b__law_gone_on_t5, zEv, List.map_cons, List.map_nil, List.length_cons, List.length_nil, List.cons_append, List.nil_append, List.append_nil, List.getElem?_cons_zero, List.getElem?_cons_succ, List.set_cons_zero, List.set_cons_succ, ofString_inj, ofString_beq, ei, ec, em, h4, h2, eq, n0, d3, c1, c2, c3, ix0, StS_len, gc_same, pcall, pname, pnum, pplus, atI, ixN]
          · simp only [wf, markOk]
            exact ⟨by omega, ⟨by omega, ⟨hx0, hsc _ hx0⟩, hw⟩, by omega, ⟨hx0, hsc _ hx0⟩, by omega⟩
          · simp only [cd]; omega
          · simp only [kn]; omega
        · have c3' : M / 4 % 2 = 1 := by omega
          refine ⟨.plus (M / 7 % 10000) (.call (M / 9 % 10000) (.name x0) (.num (M / 5 % 7))) (.call (M / 4 % 10000) (.name x0) p), s', ?_, h1, ?_, ?_, ?_⟩
          · simp [bodies, b__law_gone_on, b__law_gone_on_t1, b__law_gone_on_t2, b__law_gone_on_t3, b__law_gone_on_t4, b__law_gone_on_t5, zEv, List.map_cons, List.map_nil, List.length_cons, List.length_nil, List.cons_append, List.nil_append, List.append_nil, List.getElem?_cons_zero, List.getElem?_cons_succ, List.set_cons_zero, List.set_cons_succ, ofString_inj, ofString_beq, ei, ec, em, h4, h2, eq, n0, d3, c1, c2, c3', ix0, StS_len, gc_same, pcall, pname, pnum, pplus, atI, ixN]
          · simp only [wf, markOk]
            exact ⟨by omega, ⟨by omega, ⟨hx0, hsc _ hx0⟩, by omega⟩, by omega, ⟨hx0, hsc _ hx0⟩, hw⟩
          · simp only [cd]; omega
          · simp only [kn]; omega
      · refine ⟨.call (M / 4 % 10000) (.name x0) p, s', ?_, h1, ?_, ?_, ?_⟩
        · simp [bodies, b__law_gone_on, b__law_gone_on_t1, b__law_gone_on_t2, b__law_gone_on_t3, b__law_gone_on_t4, b__law_gone_on_t5, b__law_gone_on_t6, zEv, List.map_cons, List.map_nil, List.length_cons, List.length_nil, List.cons_append, List.nil_append, List.append_nil, List.getElem?_cons_zero, List.getElem?_cons_succ, List.set_cons_zero, List.set_cons_succ, ofString_inj, ofString_beq, ei, ec, em, h4, h2, eq, n0, d3, c1, c2, ix0, StS_len, gc_same, pcall, pname]
        · simp only [wf, markOk]
          exact ⟨by omega, ⟨hx0, hsc _ hx0⟩, hw⟩
        · simp only [cd]; omega
        · simp only [kn]; omega
  · obtain ⟨p, s', eq, h1, hw, hcd, hkn⟩ := hm ns S j deep s sc hj ok hs hd hsc (by omega) (by omega)
    refine ⟨p, s', ?_, h1, hw, hcd, by omega⟩
    by_cases h4 : M % 4 = 0
    · simp [bodies, b__law_gone_on, b__law_gone_on_t1, b__law_gone_on_t2, zEv, List.map_cons, List.map_nil, List.length_cons, List.length_nil, List.cons_append, List.nil_append, List.append_nil, List.getElem?_cons_zero, List.getElem?_cons_succ, List.set_cons_zero, List.set_cons_succ, ofString_inj, ofString_beq, ei, ec, em, h4, eq, StS_len, gc_same]
    · have h4' : 0 < M % 4 := by omega
      have h2 : ¬ 2 < deep := by omega
      have d3 : deep < 3 := by omega
      simp [bodies, b__law_gone_on, b__law_gone_on_t1, b__law_gone_on_t2, zEv, List.map_cons, List.map_nil, List.length_cons, List.length_nil, List.cons_append, List.nil_append, List.append_nil, List.getElem?_cons_zero, List.getElem?_cons_succ, List.set_cons_zero, List.set_cons_succ, ofString_inj, ofString_beq, ei, ec, em, h4, h4', h2, d3, eq, StS_len, gc_same]
theorem dIx_new (S : List O) (xs : List D) (i : Int) : dIx (.ref S.length) (.int i) (S ++ [.lst xs]) = atI xs i := by
  unfold dIx
  simp [seqL]
theorem dIx_newS (S : List O) (j : Nat) (s : Int) (xs : List D) (i : Int) : dIx (.ref S.length) (.int i) (StS S j s ++ [.lst xs]) = atI xs i := by
  have := dIx_new (StS S j s) xs i
  rw [StS_len] at this
  exact this
theorem setO_newS (S : List O) (j : Nat) (s : Int) (x : D) (xs : List D) (d : D) : setO (StS S j s ++ [.lst (x :: xs)]) (.ref S.length) (stF d 0) = some (StS S j s ++ [.lst (d :: xs)]) := by
  have e : S.length = (StS S j s).length := (StS_len S j s).symm
  unfold setO
  rw [e]
  simp [stF, ixN]
theorem gc_newS {S : List O} {d : D} {o : O} (h : okS S) (j : Nat) (s : Int) (hd : okD S.length d = true) (hr : ∀ j, d ≠ .ref j) : gcF S.length (d, StS S j s ++ [o]) = some (d, StS S j s) := by
  have := gc_new (S := StS S j s) (d := d) (o := o) (StS_ok h j s) (by rw [StS_len]; exact hd) hr
  rw [StS_len] at this
  exact this
theorem pc_noref (p : Pc) : ∀ j, p.d ≠ .ref j := by intro j; cases p <;> simp [Pc.d]
theorem made_D {k : Nat} (hm : MadeOk k) (hg : GoneOk k) : MadeOk (k + 1) := by
  intro ns S j deep s sc hj ok hs hd hsc hl hk
  have ei := StS_ix hj
  have ec := cell_D (k := k) (by omega) ns (s % 60) (Int.emod_nonneg _ (by decide)) (StS S j s)
  have em := mixed_D (k := k) (by omega) (cell ns (s % 60) + 7919 * s) (StS S j s)
  obtain ⟨m0, m1⟩ := mixed_b (cell ns (s % 60) + 7919 * s)
  generalize mixed (cell ns (s % 60) + 7919 * s) = M at em m0 m1
  obtain ⟨a, ea, ha⟩ := mark_D (k := k) (by omega) (M / 14) (StS S j (s + 1))
  obtain ⟨x0, ex, hx0⟩ := name_D (k := k) (by omega) (M / 28) (StS S j (s + 1))
  have ep := fun v => StS_put hj s v
  have en := dNe_nil hsc
  have pre : ∃ x, nmOk x ∧ b__law_made (Fk k) [some (.scr ns), some (.ref j), some (.int deep), some (sD sc), none, none, none, none, none, none, none, none] (StS S j s) =
      b__law_made_t6 (Fk k) [some (.scr ns), some (.ref j), some (.int deep), some (sD sc), some (.int M), some (.int (M % 14)), some (.int a), some (.str x), none, none, none, none] (StS S j (s + 1)) := by
    by_cases hc : sc.isEmpty = false ∧ M / 14 % 4 = 1
    · obtain ⟨he, h1⟩ := hc
      have hl0 : 0 < sc.length := by cases sc with | nil => cases he | cons _ _ => simp
      obtain ⟨x, hx, ix⟩ := sD_ix (sc := sc) (i := M / 56 % (sc.length : Int)) (Int.emod_nonneg _ (by omega)) (Int.emod_lt_of_pos _ (by omega))
      refine ⟨x, hsc x hx, ?_⟩
      simp [b__law_made, b__law_made_t1, b__law_made_t2, b__law_made_t3, b__law_made_t4, b__law_made_t5, zEv, List.map_cons, List.map_nil, List.length_cons, List.length_nil, List.cons_append, List.nil_append, List.append_nil, List.getElem?_cons_zero, List.getElem?_cons_succ, List.set_cons_zero, List.set_cons_succ, ofString_inj, ofString_beq, ei, ec, em, ea, ex, ep, en, he, h1, ix, sD_len, hl0]
    · refine ⟨x0, hx0, ?_⟩
      cases he : sc.isEmpty with
      | true => simp [b__law_made, b__law_made_t1, b__law_made_t2, b__law_made_t3, b__law_made_t4, b__law_made_t5, zEv, List.map_cons, List.map_nil, List.length_cons, List.length_nil, List.cons_append, List.nil_append, List.append_nil, List.getElem?_cons_zero, List.getElem?_cons_succ, List.set_cons_zero, List.set_cons_succ, ofString_inj, ofString_beq, ei, ec, em, ea, ex, ep, en, he]
      | false =>
        have h1 : ¬ M / 14 % 4 = 1 := fun z => hc ⟨he, z⟩
        simp [b__law_made, b__law_made_t1, b__law_made_t2, b__law_made_t3, b__law_made_t4, b__law_made_t5, zEv, List.map_cons, List.map_nil, List.length_cons, List.length_nil, List.cons_append, List.nil_append, List.append_nil, List.getElem?_cons_zero, List.getElem?_cons_succ, List.set_cons_zero, List.set_cons_succ, ofString_inj, ofString_beq, ei, ec, em, ea, ex, ep, en, he, h1]
  obtain ⟨x, hx, pre⟩ := pre
  have hscx : ∀ y ∈ x :: sc, nmOk y := fun y hy => by
    rcases List.mem_cons.mp hy with q | q
    · rw [q]; exact hx
    · exact hsc y q
  have eadd := sD_add x sc (by omega)
  clear em ec ex en ep
  -- the rest, from the sixth row on
  suffices H : ∃ p s' S2, b__law_made_t6 (Fk k) [some (.scr ns), some (.ref j), some (.int deep), some (sD sc), some (.int M), some (.int (M % 14)), some (.int a), some (.str x), none, none, none, none] (StS S j (s + 1)) = some (.rt (Pc.d p) S2) ∧
      (S2 = StS S j s' ∨ ∃ o, S2 = StS S j s' ++ [o]) ∧ s < s' ∧ wf p sc ∧ (cd p ≤ deep.toNat + 2 ∧ (deep = 0 → cd p ≤ 1)) ∧ kn p + 7 * (22 - s').toNat ≤ 1 + 7 * (22 - s).toNat by
    obtain ⟨p, s', S2, h1, h2, h3⟩ := H
    refine ⟨p, s', ?_, h3⟩
    rw [Fk_s]
    show gcFn (fnD 12 (b__law_made (Fk k))) _ _ = _
    rw [gcFn_u, fnD_u]
    simp only [List.map_cons, List.map_nil, List.length_cons, List.length_nil, List.cons_append, List.nil_append]
    rw [show List.replicate (12 - (0 + 1 + 1 + 1 + 1)) none = ([none, none, none, none, none, none, none, none] : Sl) from rfl, pre, h1, fnK_1, gcK_1, StS_len]
    rcases h2 with e | ⟨o, e⟩
    · rw [e, gc_same (by rw [StS_len]; exact Nat.le_refl _)]
    · rw [e, gc_newS ok j s' (okD_pc _ p) (pc_noref p)]
  by_cases c6 : deep = 0 ∨ M % 14 = 0 ∨ 22 < s + 1
  · obtain ⟨p, el, hw, hcd, hkn⟩ := leaf_D (k := k) (by omega) (M / 14) (by omega) sc hsc (StS S j (s + 1))
    refine ⟨p, s + 1, _, ?_, .inl rfl, by omega, hw, by omega, by omega⟩
    by_cases d0 : deep = 0
    · subst d0
      simp [b__law_made_t6, zEv, List.map_cons, List.map_nil, List.length_cons, List.length_nil, List.cons_append, List.nil_append, List.append_nil, List.getElem?_cons_zero, List.getElem?_cons_succ, List.set_cons_zero, List.set_cons_succ, ofString_inj, ofString_beq, el]
    · by_cases w0 : M % 14 = 0
      · simp [b__law_made_t6, zEv, List.map_cons, List.map_nil, List.length_cons, List.length_nil, List.cons_append, List.nil_append, List.append_nil, List.getElem?_cons_zero, List.getElem?_cons_succ, List.set_cons_zero, List.set_cons_succ, ofString_inj, ofString_beq, el, d0, w0]
      · have hs22 : 22 < s + 1 := by omega
        simp [b__law_made_t6, zEv, List.map_cons, List.map_nil, List.length_cons, List.length_nil, List.cons_append, List.nil_append, List.append_nil, List.getElem?_cons_zero, List.getElem?_cons_succ, List.set_cons_zero, List.set_cons_succ, ofString_inj, ofString_beq, el, d0, w0, hs22, ei]
  have d0 : ¬ deep = 0 := fun z => c6 (.inl z)
  have w0 : ¬ M % 14 = 0 := fun z => c6 (.inr (.inl z))
  have hs22 : ¬ 22 < s + 1 := fun z => c6 (.inr (.inr z))
  have e6 : b__law_made_t6 (Fk k) [some (.scr ns), some (.ref j), some (.int deep), some (sD sc), some (.int M), some (.int (M % 14)), some (.int a), some (.str x), none, none, none, none] (StS S j (s + 1)) = b__law_made_t7 (Fk k) [some (.scr ns), some (.ref j), some (.int deep), some (sD sc), some (.int M), some (.int (M % 14)), some (.int a), some (.str x), none, none, none, none] (StS S j (s + 1)) := by
    simp [b__law_made_t6, zEv, List.map_cons, List.map_nil, List.length_cons, List.length_nil, List.cons_append, List.nil_append, List.append_nil, List.getElem?_cons_zero, List.getElem?_cons_succ, List.set_cons_zero, List.set_cons_succ, ofString_inj, ofString_beq, d0, w0, hs22, ei]
  rw [e6]
  clear e6 c6
  by_cases c1 : M % 14 = 1
  · obtain ⟨p, s', eq, h1, hw, hcd, hkn⟩ := hm ns S j (deep - 1) (s + 1) (x :: sc) hj ok (by omega) (by omega) hscx (by simp only [List.length_cons]; omega) (by omega)
    refine ⟨.fn a x p, s', _, ?_, .inl rfl, by omega, ⟨ha, hx, hw⟩, by simp only [cd]; omega, by simp only [kn]; omega⟩
    simp [b__law_made_t7, zEv, List.map_cons, List.map_nil, List.length_cons, List.length_nil, List.cons_append, List.nil_append, List.append_nil, List.getElem?_cons_zero, List.getElem?_cons_succ, List.set_cons_zero, List.set_cons_succ, ofString_inj, ofString_beq, c1, eadd, eq, pfn]
  by_cases c5 : M % 14 < 5
  · obtain ⟨a2, ea2, ha2⟩ := mark_D (k := k) (by omega) (M / 41) (StS S j (s + 1))
    have q : ∃ p s1, Fk k ._law_made [.scr ns, .ref j, .int (deep - 2 + (if deep = 1 then 1 else 0)), sD (x :: sc)] (StS S j (s + 1)) = some (p.d, StS S j s1) ∧ s + 1 < s1 ∧ wf p (x :: sc) ∧ (cd p ≤ (deep - 2 + (if deep = 1 then 1 else 0)).toNat + 2 ∧ ((deep - 2 + (if deep = 1 then 1 else 0)) = 0 → cd p ≤ 1)) ∧ kn p + 7 * (22 - s1).toNat ≤ 1 + 7 * (22 - (s + 1)).toNat := by
      refine hm ns S j _ (s + 1) (x :: sc) hj ok (by omega) ?_ hscx ?_ ?_
      · split <;> omega
      · simp only [List.length_cons]; split <;> omega
      · split <;> omega
    obtain ⟨p, s1, eq, h1, hw, hcd, hkn⟩ := q
    obtain ⟨p2, s2, eq2, h2, hw2, hcd2, hkn2⟩ := hm ns S j (deep - 1) s1 sc hj ok (by omega) (by omega) hsc (by omega) (by omega)
    obtain ⟨a3, ea3, ha3⟩ := mark_D (k := k) (by omega) (M / 41) (StS S j s1)
    refine ⟨.call a (.fn a3 x p) p2, s2, _, ?_, .inl rfl, by omega, ⟨ha, ⟨ha3, hx, hw⟩, hw2⟩, ?_, by simp only [kn]; omega⟩
    · by_cases d1 : deep = 1
      · subst d1
        simp at eq eq2
        simp [b__law_made_t7, b__law_made_t8, zEv, List.map_cons, List.map_nil, List.length_cons, List.length_nil, List.cons_append, List.nil_append, List.append_nil, List.getElem?_cons_zero, List.getElem?_cons_succ, List.set_cons_zero, List.set_cons_succ, ofString_inj, ofString_beq, c1, c5, eadd, eq, eq2, ea3, pfn, pcall]
      · simp [d1] at eq
        simp [b__law_made_t7, b__law_made_t8, zEv, List.map_cons, List.map_nil, List.length_cons, List.length_nil, List.cons_append, List.nil_append, List.append_nil, List.getElem?_cons_zero, List.getElem?_cons_succ, List.set_cons_zero, List.set_cons_succ, ofString_inj, ofString_beq, c1, c5, d1, eadd, eq, eq2, ea3, pfn, pcall]
    · simp only [cd]
      split at hcd <;> omega
  have en := dNe_nil hsc
  by_cases c7 : M % 14 < 7 ∧ sc.isEmpty = false
  · obtain ⟨c7, he⟩ := c7
    have hl0 : 0 < sc.length := by cases sc with | nil => cases he | cons _ _ => simp
    have hmin : 0 < (if (sc.length : Int) < 2 then (sc.length : Int) else 2) ∧ (if (sc.length : Int) < 2 then (sc.length : Int) else 2) ≤ sc.length := by split <;> omega
    generalize hmn : (if (sc.length : Int) < 2 then (sc.length : Int) else 2) = mn at hmin
    obtain ⟨y, hy, iy⟩ := sD_ix (sc := sc) (i := M / 14 % mn) (Int.emod_nonneg _ (by omega)) (by have := Int.emod_lt_of_pos (M / 14) hmin.1; omega)
    obtain ⟨p, s', eq, h1, hw, hcd, hkn⟩ := hm ns S j (deep - 1) (s + 1) sc hj ok (by omega) (by omega) hsc (by omega) (by omega)
    have bm : ∀ S, bMin [.int 2, .int sc.length] S = some (.int mn) := fun S => by rw [bMin_i, hmn]
    have mp := hmin.1
    refine ⟨.call a (.name y) p, s', _, ?_, .inl rfl, by omega, ⟨ha, ⟨hy, hsc y hy⟩, hw⟩, by simp only [cd]; omega, by simp only [kn]; omega⟩
    simp [b__law_made_t7, b__law_made_t8, b__law_made_t9, zEv, List.map_cons, List.map_nil, List.length_cons, List.length_nil, List.cons_append, List.nil_append, List.append_nil, List.getElem?_cons_zero, List.getElem?_cons_succ, List.set_cons_zero, List.set_cons_succ, ofString_inj, ofString_beq, c1, c5, c7, en, he, sD_len, bm, mp, iy, eq, pname, pcall, -bMin_i]
  have e9 : b__law_made_t7 (Fk k) [some (.scr ns), some (.ref j), some (.int deep), some (sD sc), some (.int M), some (.int (M % 14)), some (.int a), some (.str x), none, none, none, none] (StS S j (s + 1)) = b__law_made_t10 (Fk k) [some (.scr ns), some (.ref j), some (.int deep), some (sD sc), some (.int M), some (.int (M % 14)), some (.int a), some (.str x), none, none, none, none] (StS S j (s + 1)) := by
    by_cases c7' : M % 14 < 7
    · have he : sc.isEmpty = true := by
        cases he : sc.isEmpty with
        | true => rfl
        | false => exact absurd ⟨c7', he⟩ c7
      simp [b__law_made_t7, b__law_made_t8, b__law_made_t9, zEv, List.map_cons, List.map_nil, List.length_cons, List.length_nil, List.cons_append, List.nil_append, List.append_nil, List.getElem?_cons_zero, List.getElem?_cons_succ, List.set_cons_zero, List.set_cons_succ, ofString_inj, ofString_beq, c1, c5, c7', en, he]
    · simp [b__law_made_t7, b__law_made_t8, b__law_made_t9, zEv, List.map_cons, List.map_nil, List.length_cons, List.length_nil, List.cons_append, List.nil_append, List.append_nil, List.getElem?_cons_zero, List.getElem?_cons_succ, List.set_cons_zero, List.set_cons_succ, ofString_inj, ofString_beq, c1, c5, c7']
  rw [e9]
  clear e9
  by_cases c77 : M % 14 = 7
  · obtain ⟨p0, s0, eq0, h0, hw0, hcd0, hkn0⟩ := hm ns S j (deep - 1) (s + 1) sc hj ok (by omega) (by omega) hsc (by omega) (by omega)
    obtain ⟨p1, s1, eq1, h1, hw1, hcd1, hkn1⟩ := hm ns S j (deep - 1) s0 sc hj ok (by omega) (by omega) hsc (by omega) (by omega)
    obtain ⟨p2, s2, eq2, h2, hw2, hcd2, hkn2⟩ := hm ns S j (deep - 1) s1 sc hj ok (by omega) (by omega) hsc (by omega) (by omega)
    have r3 : rangeD 0 3 = [.int 0, .int 1, .int 2] := by simp [rangeD, List.range, List.range.loop]
    have k0 := kn_pos p0
    by_cases c2 : M / 14 % 2 = 1
    · refine ⟨.pick a (.num (M / 28 % 5 - 2)) p1 p2, s2, StS S j s2 ++ [.lst [(Pc.num (M / 28 % 5 - 2)).d, p1.d, p2.d]], ?_, .inr ⟨_, rfl⟩, by omega, ⟨ha, ?_, hw1, hw2⟩, by simp only [cd]; omega, by simp only [kn]; omega⟩
      · simp [b__law_made_t10, zEv, List.map_cons, List.map_nil, List.length_cons, List.length_nil, List.cons_append, List.nil_append, List.append_nil, List.getElem?_cons_zero, List.getElem?_cons_succ, List.set_cons_zero, List.set_cons_succ, ofString_inj, ofString_beq, c77, c2, r3, eq0, eq1, eq2, StS_len, dIx_newS, setO_newS, atI, ixN, pnum, ppick]
      · simp only [wf]; omega
    · refine ⟨.pick a p0 p1 p2, s2, StS S j s2 ++ [.lst [p0.d, p1.d, p2.d]], ?_, .inr ⟨_, rfl⟩, by omega, ⟨ha, hw0, hw1, hw2⟩, by simp only [cd]; omega, by simp only [kn]; omega⟩
      simp [b__law_made_t10, zEv, List.map_cons, List.map_nil, List.length_cons, List.length_nil, List.cons_append, List.nil_append, List.append_nil, List.getElem?_cons_zero, List.getElem?_cons_succ, List.set_cons_zero, List.set_cons_succ, ofString_inj, ofString_beq, c77, c2, r3, eq0, eq1, eq2, StS_len, dIx_newS, setO_newS, atI, ixN, ppick]
  obtain ⟨p, s', eq, h1, hw, hcd, hkn⟩ := hm ns S j (deep - 1) (s + 1) sc hj ok (by omega) (by omega) hsc (by omega) (by omega)
  by_cases c10 : M % 14 < 10
  · refine ⟨.rnd p, s', _, ?_, .inl rfl, by omega, hw, by simp only [cd]; omega, by simp only [kn]; omega⟩
    simp [b__law_made_t10, b__law_made_t11, zEv, List.map_cons, List.map_nil, List.length_cons, List.length_nil, List.cons_append, List.nil_append, List.append_nil, List.getElem?_cons_zero, List.getElem?_cons_succ, List.set_cons_zero, List.set_cons_succ, ofString_inj, ofString_beq, c77, c10, eq, prnd]
  by_cases c12 : M % 14 < 12
  · obtain ⟨p, s', eq, h1, hw, hcd, hkn⟩ := hg ns S j (deep - 1) (s + 1) (x :: sc) hj ok (by omega) (by omega) hscx (by simp) (by simp only [List.length_cons]; omega) (by omega)
    refine ⟨.take a x p, s', _, ?_, .inl rfl, by omega, ⟨ha, hx, hw⟩, by simp only [cd]; omega, by simp only [kn]; omega⟩
    simp [b__law_made_t10, b__law_made_t11, b__law_made_t12, zEv, List.map_cons, List.map_nil, List.length_cons, List.length_nil, List.cons_append, List.nil_append, List.append_nil, List.getElem?_cons_zero, List.getElem?_cons_succ, List.set_cons_zero, List.set_cons_succ, ofString_inj, ofString_beq, c77, c10, c12, eadd, eq, ptake]
  obtain ⟨p2, s2, eq2, h2, hw2, hcd2, hkn2⟩ := hm ns S j (deep - 1) s' sc hj ok (by omega) (by omega) hsc (by omega) (by omega)
  by_cases c13 : M / 14 % 7 = 1
  · refine ⟨.call a p p2, s2, _, ?_, .inl rfl, by omega, ⟨ha, hw, hw2⟩, by simp only [cd]; omega, by simp only [kn]; omega⟩
    simp [b__law_made_t10, b__law_made_t11, b__law_made_t12, b__law_made_t13, zEv, List.map_cons, List.map_nil, List.length_cons, List.length_nil, List.cons_append, List.nil_append, List.append_nil, List.getElem?_cons_zero, List.getElem?_cons_succ, List.set_cons_zero, List.set_cons_succ, ofString_inj, ofString_beq, c77, c10, c12, c13, eq, eq2, pcall]
  · refine ⟨.plus a p p2, s2, _, ?_, .inl rfl, by omega, ⟨ha, hw, hw2⟩, by simp only [cd]; omega, by simp only [kn]; omega⟩
    simp [b__law_made_t10, b__law_made_t11, b__law_made_t12, b__law_made_t13, b__law_made_t14, zEv, List.map_cons, List.map_nil, List.length_cons, List.length_nil, List.cons_append, List.nil_append, List.append_nil, List.getElem?_cons_zero, List.getElem?_cons_succ, List.set_cons_zero, List.set_cons_succ, ofString_inj, ofString_beq, c77, c10, c12, c13, eq, eq2, pplus]
theorem made_all : ∀ k, MadeOk k ∧ GoneOk k
  | 0 => ⟨fun ns S j deep s sc _ _ _ _ _ _ h => by omega, fun ns S j deep s sc _ _ _ _ _ _ _ h => by omega⟩
  | k + 1 => ⟨made_D (made_all k).1 (made_all k).2, gone_D (made_all k).1⟩
theorem cd_pos : ∀ p : Pc, 1 ≤ cd p := by intro p; cases p <;> simp [cd]
theorem cut2 (a b : D) (r : List D) : cutD (a :: b :: r) none (some 2) = [a, b] := by simp [cutD, HT.sIx]
theorem cut3 (a b c : D) (r : List D) : cutD (a :: b :: c :: r) none (some 3) = [a, b, c] := by simp [cutD, HT.sIx]
theorem drop2 (a b : D) (r : List D) : cutD (a :: b :: r) (some 2) none = r := by simp [cutD, HT.sIx]
theorem okDs_all (n : Nat) : ∀ (ds : List D), (∀ d ∈ ds, okD n d = true) → okDs n ds = true
  | [], _ => by simp [okDs]
  | d :: ds, h => by simp [okDs, h d List.mem_cons_self, okDs_all n ds (fun e he => h e (List.mem_cons_of_mem _ he))]
theorem gc_list {S : List O} {xs : List D} (h : okS S) (hd : okDs S.length xs = true) : gcF S.length (.ref S.length, S ++ [.lst xs]) = some (.lst xs, S) := by
  unfold gcF
  rw [if_neg (by simp)]
  have e : (S ++ [O.lst xs]).take S.length = S := by simp
  simp only [e]
  rw [if_pos (show S.all (okO S.length) = true from h)]
  simp [hd]
mutual
theorem okD_le {n m : Nat} (h : n ≤ m) : ∀ {d : D}, okD n d = true → okD m d = true
  | .non, _ => by simp [okD]
  | .bl _, _ => by simp [okD]
  | .int _, _ => by simp [okD]
  | .str _, _ => by simp [okD]
  | .scr _, _ => by simp [okD]
  | .tup xs, q => by simp only [okD] at q ⊢; exact okDs_le h q
  | .lst xs, q => by simp only [okD] at q ⊢; exact okDs_le h q
  | .dic ks, q => by simp only [okD] at q ⊢; exact okKs_le h q
  | .ref j, q => by simp only [okD, decide_eq_true_eq] at q ⊢; omega
  | .tun xs, q => by simp only [okD] at q ⊢; exact okDs_le h q
  | .fn _, _ => by simp [okD]
theorem okDs_le {n m : Nat} (h : n ≤ m) : ∀ {ds : List D}, okDs n ds = true → okDs m ds = true
  | [], _ => by simp [okDs]
  | d :: ds, q => by simp only [okDs, Bool.and_eq_true] at q ⊢; exact ⟨okD_le h q.1, okDs_le h q.2⟩
theorem okKs_le {n m : Nat} (h : n ≤ m) : ∀ {ds : List (Key × D)}, okKs n ds = true → okKs m ds = true
  | [], _ => by simp [okKs]
  | (k, d) :: ds, q => by simp only [okKs, Bool.and_eq_true] at q ⊢; exact ⟨okD_le h q.1, okKs_le h q.2⟩
end
theorem okO_le {n m : Nat} {o : O} (q : okO n o = true) (h : n ≤ m) : okO m o = true := by
  cases o with
  | lst xs => exact okDs_le h q
  | dic ks => exact okKs_le h q
  | ins fs => exact okDs_le h q
theorem wf_ok {M V : Nat} : ∀ {p : Pc} {sc : List Str}, wf p sc → cd p ≤ 11 → Ok M V sc p
  | .num _, _, _, _ => trivial
  | .name _, _, h, _ => h
  | .fn a x b, _, h, hc => by simp only [cd] at hc; exact ⟨h.2.1, by omega, wf_ok h.2.2 (by omega)⟩
  | .call _ f g, _, h, hc => by simp only [cd] at hc; exact ⟨wf_ok h.2.1 (by omega), wf_ok h.2.2 (by omega)⟩
  | .plus _ f g, _, h, hc => by simp only [cd] at hc; exact ⟨wf_ok h.2.1 (by omega), wf_ok h.2.2 (by omega)⟩
  | .pick _ c f g, _, h, hc => by simp only [cd] at hc; exact ⟨wf_ok h.2.1 (by omega), wf_ok h.2.2.1 (by omega), wf_ok h.2.2.2 (by omega)⟩
  | .rnd b, sc, h, hc => by
    have h' : wf b sc := h
    simp only [cd] at hc
    exact wf_ok (p := b) h' (by omega)
  | .take a x b, _, h, hc => by simp only [cd] at hc; exact ⟨h.2.1, by omega, wf_ok h.2.2 (by omega)⟩
  | .shut .., _, h, _ => h.elim
  | .kept .., _, h, _ => h.elim
theorem piece_loop {k : Nat} (hk : 1 ≤ k) (c : Int) (S : List O) (d0 d1 : D) : ∀ (l : List Nat) (p : Pc) (z : Option D), (∀ i ∈ l, i < 100) → wf p [] → Ok 0 0 [] p → ∃ p' z', forD (gdName 4) (sSet 3 (eTup (aCons (eC (.str "plus")) (aCons (eCall 1 (Fk k ._law_mark_by) (aCons (eOp dAdd (eVar 2) (eVar 4)) aNil)) (aCons (eTup (aCons (eC (.str "num")) (aCons (eVar 4) aNil))) (aCons (eVar 3) aNil))))))
      (l.map fun i : Nat => D.int (i : Int)) [some d0, some d1, some (.int c), some p.d, z] S = some (.nx [some d0, some d1, some (.int c), some (Pc.d p'), z'] S) ∧ wf p' [] ∧ Ok 0 0 [] p' ∧ cd p' ≤ cd p + l.length ∧ kn p' ≤ kn p + 2 * l.length
  | [], p, z, _, hw, ho => ⟨p, z, by simp [zEv, List.map_cons, List.map_nil, List.length_cons, List.length_nil, List.cons_append, List.nil_append, List.append_nil, List.getElem?_cons_zero, List.getElem?_cons_succ, List.set_cons_zero, List.set_cons_succ, ofString_inj, ofString_beq], hw, ho, by simp, by simp⟩
  | i :: l, p, z, hi, hw, ho => by
    obtain ⟨a, ea, ha⟩ := mark_D (k := k) hk (c + i) S
    have hi0 := hi i List.mem_cons_self
    have hw' : wf (.plus a (.num i) p) [] := ⟨ha, ⟨by omega, by omega⟩, hw⟩
    obtain ⟨p', z', h1, h2, h3, h4, h5⟩ := piece_loop hk c S d0 d1 l (.plus a (.num i) p) (some (.int i)) (fun j hj => hi j (List.mem_cons_of_mem _ hj)) hw' ⟨trivial, ho⟩
    refine ⟨p', z', ?_, h2, h3, ?_, ?_⟩
    · rw [List.map_cons, forD_c, gdName_u, forK2_1]
      have : (sSet 3 (eTup (aCons (eC (.str "plus")) (aCons (eCall 1 (Fk k ._law_mark_by) (aCons (eOp dAdd (eVar 2) (eVar 4)) aNil)) (aCons (eTup (aCons (eC (.str "num")) (aCons (eVar 4) aNil))) (aCons (eVar 3) aNil)))))) [some d0, some d1, some (.int c), some p.d, some (.int i)] S = some (.nx [some d0, some d1, some (.int c), some (Pc.d (.plus a (.num i) p)), some (.int i)] S) := by
        simp [zEv, List.map_cons, List.map_nil, List.length_cons, List.length_nil, List.cons_append, List.nil_append, List.append_nil, List.getElem?_cons_zero, List.getElem?_cons_succ, List.set_cons_zero, List.set_cons_succ, ofString_inj, ofString_beq, ea, Pc.d]
      simp only [List.set_cons_succ, List.set_cons_zero]
      rw [this, forK3_1, h1]
    · simp only [cd, List.length_cons] at h4 ⊢
      have := cd_pos p
      omega
    · simp only [kn, List.length_cons] at h5 ⊢
      omega
theorem StS_new (S : List O) (s t : Int) : StS (S ++ [.lst [.int t]]) S.length s = S ++ [.lst [.int s]] := by simp [StS]
theorem okS_new {S : List O} (h : okS S) (s : Int) : okS (S ++ [.lst [.int s]]) := by
  unfold okS at *
  rw [List.all_append, Bool.and_eq_true]
  refine ⟨?_, by simp [okO, okDs, okD]⟩
  rw [List.all_eq_true] at h ⊢
  intro o ho
  exact okO_le (h o ho) (by simp)
/-! ## pieces seen to -/
theorem is_whole_D {k : Nat} (hk : 1 ≤ k) (i : Int) (S : List O) : Fk k .is_whole [.int i] S = some (.bl true, S) := by
  obtain ⟨k, rfl⟩ := lev hk
  rw [Fk_s]
  simp [bodies, zEv, List.map_cons, List.map_nil, List.length_cons, List.length_nil, List.cons_append, List.nil_append, List.append_nil, List.getElem?_cons_zero, List.getElem?_cons_succ, List.set_cons_zero, List.set_cons_succ, ofString_inj, ofString_beq, isD, tyD]
theorem is_mark_D {k : Nat} (hk : 2 ≤ k) (i : Int) (h : markOk i) (S : List O) : Fk k .is_mark [.int i] S = some (.bl true, S) := by
  obtain ⟨k, rfl⟩ : ∃ j, k = j + 1 := ⟨k - 1, by omega⟩
  rw [Fk_s]
  have e := is_whole_D (k := k) (by omega) i S
  obtain ⟨h1, h2⟩ := h
  simp [bodies, zEv, List.map_cons, List.map_nil, List.length_cons, List.length_nil, List.cons_append, List.nil_append, List.append_nil, List.getElem?_cons_zero, List.getElem?_cons_succ, List.set_cons_zero, List.set_cons_succ, ofString_inj, ofString_beq, e, h1, h2]
theorem is_number_D {k : Nat} (hk : 2 ≤ k) (i : Int) (h : -1000000000000 < i ∧ i < 1000000000000) (S : List O) : Fk k .is_number [.int i] S = some (.bl true, S) := by
  obtain ⟨k, rfl⟩ : ∃ j, k = j + 1 := ⟨k - 1, by omega⟩
  rw [Fk_s]
  have e := is_whole_D (k := k) (by omega) i S
  obtain ⟨h1, h2⟩ := h
  simp [bodies, zEv, List.map_cons, List.map_nil, List.length_cons, List.length_nil, List.cons_append, List.nil_append, List.append_nil, List.getElem?_cons_zero, List.getElem?_cons_succ, List.set_cons_zero, List.set_cons_succ, ofString_inj, ofString_beq, e, h1, h2]
theorem name_loop (S : List O) (d0 : D) : ∀ (cs : List Nat) (z : Option D), (∀ c ∈ cs, 97 ≤ c ∧ c ≤ 122) → ∃ z', forD (gdName 1) (sIf (tOf (eOp dNotSign (eVar 1) (eC (.str "abcdefghijklmnopqrstuvwxyz")))) (sRet (eC (.bl false))) sNext) (cs.map fun c => D.str ⟨#[c]⟩) [some d0, z] S = some (.nx [some d0, z'] S)
  | [], z, _ => ⟨z, by simp [zEv, List.map_cons, List.map_nil, List.length_cons, List.length_nil, List.cons_append, List.nil_append, List.append_nil, List.getElem?_cons_zero, List.getElem?_cons_succ, List.set_cons_zero, List.set_cons_succ, ofString_inj, ofString_beq]⟩
  | c :: cs, z, h => by
    obtain ⟨z', ih⟩ := name_loop S d0 cs (some (.str ⟨#[c]⟩)) (fun x hx => h x (List.mem_cons_of_mem _ hx))
    refine ⟨z', ?_⟩
    have e : dNotSign (.str ⟨#[c]⟩) (.str "abcdefghijklmnopqrstuvwxyz") S = some (.bl false) := by
      obtain ⟨h1, h2⟩ := h c List.mem_cons_self
      unfold dNotSign
      dsimp only
      rw [if_pos (show (#[c] : Array Nat).size = 1 from rfl), letters_eq]
      have : c ∈ (List.range 26).map (· + 97) := List.mem_map.mpr ⟨c - 97, List.mem_range.mpr (by omega), by omega⟩
      simp only [Array.getD, List.getD]
      simp [this]
    rw [List.map_cons, forD_c, gdName_u, forK2_1]
    simp [zEv, List.map_cons, List.map_nil, List.length_cons, List.length_nil, List.cons_append, List.nil_append, List.append_nil, List.getElem?_cons_zero, List.getElem?_cons_succ, List.set_cons_zero, List.set_cons_succ, ofString_inj, ofString_beq, e, ih]
theorem is_name_D {k : Nat} (hk : 1 ≤ k) (x : Str) (h : nmOk x) (S : List O) : Fk k .is_name [.str x] S = some (.bl true, S) := by
  obtain ⟨k, rfl⟩ := lev hk
  rw [Fk_s]
  obtain ⟨h1, h2, h3⟩ := h
  obtain ⟨z, lp⟩ := name_loop S (.str x) x.cps.toList none h3
  have b1 : x.length ≤ 16777216 := by omega
  have b2 : (1 : Int) ≤ (x.length : Int) := by omega
  have b3 : (x.length : Int) ≤ 8 := by omega
  have b4 : 1 ≤ x.length := h1
  simp [bodies, zEv, List.map_cons, List.map_nil, List.length_cons, List.length_nil, List.cons_append, List.nil_append, List.append_nil, List.getElem?_cons_zero, List.getElem?_cons_succ, List.set_cons_zero, List.set_cons_succ, ofString_inj, ofString_beq, isD, tyD, sizeLine_eq, b1, b2, b3, b4, h2, lp]
theorem leaf_m {k : Nat} (hk : 3 ≤ k) (a : Int) (h : markOk a) (S : List O) : Fk k .is_leaf_part [.str "m", .int a] S = some (.bl true, S) := by
  obtain ⟨k, rfl⟩ : ∃ j, k = j + 1 := ⟨k - 1, by omega⟩
  rw [Fk_s]
  have e := is_mark_D (k := k) (by omega) a h S
  simp [bodies, zEv, List.map_cons, List.map_nil, List.length_cons, List.length_nil, List.cons_append, List.nil_append, List.append_nil, List.getElem?_cons_zero, List.getElem?_cons_succ, List.set_cons_zero, List.set_cons_succ, ofString_inj, ofString_beq, e]
theorem leaf_n {k : Nat} (hk : 3 ≤ k) (a : Int) (h : -1000000000000 < a ∧ a < 1000000000000) (S : List O) : Fk k .is_leaf_part [.str "n", .int a] S = some (.bl true, S) := by
  obtain ⟨k, rfl⟩ : ∃ j, k = j + 1 := ⟨k - 1, by omega⟩
  rw [Fk_s]
  have e := is_number_D (k := k) (by omega) a h S
  simp [bodies, zEv, List.map_cons, List.map_nil, List.length_cons, List.length_nil, List.cons_append, List.nil_append, List.append_nil, List.getElem?_cons_zero, List.getElem?_cons_succ, List.set_cons_zero, List.set_cons_succ, ofString_inj, ofString_beq, e]
theorem leaf_w {k : Nat} (hk : 3 ≤ k) (x : Str) (h : nmOk x) (S : List O) : Fk k .is_leaf_part [.str "w", .str x] S = some (.bl true, S) := by
  obtain ⟨k, rfl⟩ : ∃ j, k = j + 1 := ⟨k - 1, by omega⟩
  rw [Fk_s]
  have e := is_name_D (k := k) (by omega) x h S
  simp [bodies, zEv, List.map_cons, List.map_nil, List.length_cons, List.length_nil, List.cons_append, List.nil_append, List.append_nil, List.getElem?_cons_zero, List.getElem?_cons_succ, List.set_cons_zero, List.set_cons_succ, ofString_inj, ofString_beq, e]
theorem sg_m : (⟨#[109]⟩ : Str) = "m" := by decide +kernel
theorem sg_w : (⟨#[119]⟩ : Str) = "w" := by decide +kernel
theorem sg_p : (⟨#[112]⟩ : Str) = "p" := by decide +kernel
theorem sg_n : (⟨#[110]⟩ : Str) = "n" := by decide +kernel
theorem zip_n (d1 : D) : zipSD (Str.ofString "n").cps.toList [d1] = [.tup [.str "n", d1]] := by
  have : (Str.ofString "n").cps.toList = [110] := by decide +kernel
  rw [this]; simp [zipSD, sg_n]
theorem zip_w (d1 : D) : zipSD (Str.ofString "w").cps.toList [d1] = [.tup [.str "w", d1]] := by
  have : (Str.ofString "w").cps.toList = [119] := by decide +kernel
  rw [this]; simp [zipSD, sg_w]
theorem zip_p (d1 : D) : zipSD (Str.ofString "p").cps.toList [d1] = [.tup [.str "p", d1]] := by
  have : (Str.ofString "p").cps.toList = [112] := by decide +kernel
  rw [this]; simp [zipSD, sg_p]
theorem zip_mwp (d1 d2 d3 : D) : zipSD (Str.ofString "mwp").cps.toList [d1, d2, d3] = [.tup [.str "m", d1], .tup [.str "w", d2], .tup [.str "p", d3]] := by
  have : (Str.ofString "mwp").cps.toList = [109, 119, 112] := by decide +kernel
  rw [this]; simp [zipSD, sg_m, sg_w, sg_p]
theorem zip_mpp (d1 d2 d3 : D) : zipSD (Str.ofString "mpp").cps.toList [d1, d2, d3] = [.tup [.str "m", d1], .tup [.str "p", d2], .tup [.str "p", d3]] := by
  have : (Str.ofString "mpp").cps.toList = [109, 112, 112] := by decide +kernel
  rw [this]; simp [zipSD, sg_m, sg_p]
theorem zip_mppp (d1 d2 d3 d4 : D) : zipSD (Str.ofString "mppp").cps.toList [d1, d2, d3, d4] = [.tup [.str "m", d1], .tup [.str "p", d2], .tup [.str "p", d3], .tup [.str "p", d4]] := by
  have : (Str.ofString "mppp").cps.toList = [109, 112, 112, 112] := by decide +kernel
  rw [this]; simp [zipSD, sg_m, sg_p]
theorem len_n : (Str.ofString "n").length = 1 := by decide +kernel
theorem len_w : (Str.ofString "w").length = 1 := by decide +kernel
theorem len_p : (Str.ofString "p").length = 1 := by decide +kernel
theorem len_mwp : (Str.ofString "mwp").length = 3 := by decide +kernel
theorem len_mpp : (Str.ofString "mpp").length = 3 := by decide +kernel
theorem len_mppp : (Str.ofString "mppp").length = 4 := by decide +kernel
theorem shape_D {k : Nat} (hk : 1 ≤ k) (S : List O) : Fk k .shape_of [.str "num"] S = some (.str "n", S) ∧ Fk k .shape_of [.str "name"] S = some (.str "w", S) ∧ Fk k .shape_of [.str "fun"] S = some (.str "mwp", S) ∧ Fk k .shape_of [.str "take"] S = some (.str "mwp", S) ∧ Fk k .shape_of [.str "call"] S = some (.str "mpp", S) ∧ Fk k .shape_of [.str "plus"] S = some (.str "mpp", S) ∧ Fk k .shape_of [.str "pick"] S = some (.str "mppp", S) ∧ Fk k .shape_of [.str "round"] S = some (.str "p", S) := by
  obtain ⟨k, rfl⟩ := lev hk
  rw [Fk_s]
  refine ⟨?_, ?_, ?_, ?_, ?_, ?_, ?_, ?_⟩ <;> simp [bodies, zEv, List.map_cons, List.map_nil, List.length_cons, List.length_nil, List.cons_append, List.nil_append, List.append_nil, List.getElem?_cons_zero, List.getElem?_cons_succ, List.set_cons_zero, List.set_cons_succ, ofString_inj, ofString_beq]
theorem knots_D : ∀ (p : Pc) (sc : List Str) (k : Nat) (left : Int) (S : List O), wf p sc → (cd p : Int) ≤ left → kn p ≤ 300 → cd p + 5 ≤ k → Fk k .knots_if [p.d, .int left] S = some (.int (kn p : Nat), S)
  | p, _, 0, _, _, _, _, _, h => by omega
  | .num n, sc, k + 1, left, S, hw, hl, hn, hk => by
    rw [Fk_s]
    simp only [cd] at hl hk
    obtain ⟨s1, s2, s3, s4, s5, s6, s7, s8⟩ := shape_D (k := k) (by omega) S
    have e1 := leaf_n (k := k) (by omega) n hw S
    have l0 : ¬ left = 0 := by omega
    simp [bodies, b_knots_if_t1, b_knots_if_t2, b_knots_if_t3, b_knots_if_t4, b_knots_if_t5, zEv, List.map_cons, List.map_nil, List.length_cons, List.length_nil, List.cons_append, List.nil_append, List.append_nil, List.getElem?_cons_zero, List.getElem?_cons_succ, List.set_cons_zero, List.set_cons_succ, ofString_inj, ofString_beq, Pc.d, l0, isD, tyD, at0, s1, isNon, len_n, sizeLine_eq, drop1, zip_n, gdTup, gsCons, gsNil, gdName, e1, kn]
  | .name x, sc, k + 1, left, S, hw, hl, hn, hk => by
    rw [Fk_s]
    simp only [cd] at hl hk
    obtain ⟨s1, s2, s3, s4, s5, s6, s7, s8⟩ := shape_D (k := k) (by omega) S
    have e1 := leaf_w (k := k) (by omega) x hw.2 S
    have l0 : ¬ left = 0 := by omega
    simp [bodies, b_knots_if_t1, b_knots_if_t2, b_knots_if_t3, b_knots_if_t4, b_knots_if_t5, zEv, List.map_cons, List.map_nil, List.length_cons, List.length_nil, List.cons_append, List.nil_append, List.append_nil, List.getElem?_cons_zero, List.getElem?_cons_succ, List.set_cons_zero, List.set_cons_succ, ofString_inj, ofString_beq, Pc.d, l0, isD, tyD, at0, s2, isNon, len_w, sizeLine_eq, drop1, zip_w, gdTup, gsCons, gsNil, gdName, e1, kn]
  | .fn a x b, sc, k + 1, left, S, hw, hl, hn, hk => by
    rw [Fk_s]
    simp only [cd] at hl hk
    simp only [kn] at hn
    obtain ⟨s1, s2, s3, s4, s5, s6, s7, s8⟩ := shape_D (k := k) (by omega) S
    have e1 := leaf_m (k := k) (by omega) a hw.1 S
    have e2 := leaf_w (k := k) (by omega) x hw.2.1 S
    have ih := knots_D b _ k (left - 1) S hw.2.2 (by omega) (by omega) (by omega)
    have kp := kn_pos b
    have l0 : ¬ left = 0 := by omega
    have k0 : ¬ (kn b : Int) = 0 := by omega
    have k1 : ¬ (kn b = 0) := by omega
    have k3 : ¬ (300 : Int) < 1 + (kn b : Int) := by omega
    simp [bodies, b_knots_if_t1, b_knots_if_t2, b_knots_if_t3, b_knots_if_t4, b_knots_if_t5, zEv, List.map_cons, List.map_nil, List.length_cons, List.length_nil, List.cons_append, List.nil_append, List.append_nil, List.getElem?_cons_zero, List.getElem?_cons_succ, List.set_cons_zero, List.set_cons_succ, ofString_inj, ofString_beq, Pc.d, l0, isD, tyD, at0, s3, isNon, len_mwp, sizeLine_eq, drop1, zip_mwp, gdTup, gsCons, gsNil, gdName, e1, e2, ih, k0, k1, k3, kn]
    omega
  | .take a x b, sc, k + 1, left, S, hw, hl, hn, hk => by
    rw [Fk_s]
    simp only [cd] at hl hk
    simp only [kn] at hn
    obtain ⟨s1, s2, s3, s4, s5, s6, s7, s8⟩ := shape_D (k := k) (by omega) S
    have e1 := leaf_m (k := k) (by omega) a hw.1 S
    have e2 := leaf_w (k := k) (by omega) x hw.2.1 S
    have ih := knots_D b _ k (left - 1) S hw.2.2 (by omega) (by omega) (by omega)
    have kp := kn_pos b
    have l0 : ¬ left = 0 := by omega
    have k0 : ¬ (kn b : Int) = 0 := by omega
    have k1 : ¬ (kn b = 0) := by omega
    have k3 : ¬ (300 : Int) < 1 + (kn b : Int) := by omega
    simp [bodies, b_knots_if_t1, b_knots_if_t2, b_knots_if_t3, b_knots_if_t4, b_knots_if_t5, zEv, List.map_cons, List.map_nil, List.length_cons, List.length_nil, List.cons_append, List.nil_append, List.append_nil, List.getElem?_cons_zero, List.getElem?_cons_succ, List.set_cons_zero, List.set_cons_succ, ofString_inj, ofString_beq, Pc.d, l0, isD, tyD, at0, s4, isNon, len_mwp, sizeLine_eq, drop1, zip_mwp, gdTup, gsCons, gsNil, gdName, e1, e2, ih, k0, k1, k3, kn]
    omega
  | .rnd b, sc, k + 1, left, S, hw, hl, hn, hk => by
    rw [Fk_s]
    simp only [cd] at hl hk
    simp only [kn] at hn
    obtain ⟨s1, s2, s3, s4, s5, s6, s7, s8⟩ := shape_D (k := k) (by omega) S
    have hw : wf b sc := hw
    have ih := knots_D b _ k (left - 1) S hw (by omega) (by omega) (by omega)
    have kp := kn_pos b
    have l0 : ¬ left = 0 := by omega
    have k0 : ¬ (kn b : Int) = 0 := by omega
    have k1 : ¬ (kn b = 0) := by omega
    have k3 : ¬ (300 : Int) < 1 + (kn b : Int) := by omega
    simp [bodies, b_knots_if_t1, b_knots_if_t2, b_knots_if_t3, b_knots_if_t4, b_knots_if_t5, zEv, List.map_cons, List.map_nil, List.length_cons, List.length_nil, List.cons_append, List.nil_append, List.append_nil, List.getElem?_cons_zero, List.getElem?_cons_succ, List.set_cons_zero, List.set_cons_succ, ofString_inj, ofString_beq, Pc.d, l0, isD, tyD, at0, s8, isNon, len_p, sizeLine_eq, drop1, zip_p, gdTup, gsCons, gsNil, gdName, ih, k0, k1, k3, kn]
    omega
  | .call a f g, sc, k + 1, left, S, hw, hl, hn, hk => by
    rw [Fk_s]
    simp only [cd] at hl hk
    simp only [kn] at hn
    obtain ⟨s1, s2, s3, s4, s5, s6, s7, s8⟩ := shape_D (k := k) (by omega) S
    have e1 := leaf_m (k := k) (by omega) a hw.1 S
    have i1 := knots_D f _ k (left - 1) S hw.2.1 (by omega) (by omega) (by omega)
    have i2 := knots_D g _ k (left - 1) S hw.2.2 (by omega) (by omega) (by omega)
    have kf := kn_pos f
    have kg := kn_pos g
    have l0 : ¬ left = 0 := by omega
    have k0 : ¬ (kn f : Int) = 0 := by omega
    have k1 : ¬ (kn f = 0) := by omega
    have k2 : ¬ (kn g : Int) = 0 := by omega
    have k3 : ¬ (kn g = 0) := by omega
    have k4 : ¬ (300 : Int) < 1 + (kn f : Int) := by omega
    have k5 : ¬ (300 : Int) < 1 + (kn f : Int) + (kn g : Int) := by omega
    simp [bodies, b_knots_if_t1, b_knots_if_t2, b_knots_if_t3, b_knots_if_t4, b_knots_if_t5, zEv, List.map_cons, List.map_nil, List.length_cons, List.length_nil, List.cons_append, List.nil_append, List.append_nil, List.getElem?_cons_zero, List.getElem?_cons_succ, List.set_cons_zero, List.set_cons_succ, ofString_inj, ofString_beq, Pc.d, l0, isD, tyD, at0, s5, isNon, len_mpp, sizeLine_eq, drop1, zip_mpp, gdTup, gsCons, gsNil, gdName, e1, i1, i2, k0, k1, k2, k3, k4, k5, kn]
    omega
  | .plus a f g, sc, k + 1, left, S, hw, hl, hn, hk => by
    rw [Fk_s]
    simp only [cd] at hl hk
    simp only [kn] at hn
    obtain ⟨s1, s2, s3, s4, s5, s6, s7, s8⟩ := shape_D (k := k) (by omega) S
    have e1 := leaf_m (k := k) (by omega) a hw.1 S
    have i1 := knots_D f _ k (left - 1) S hw.2.1 (by omega) (by omega) (by omega)
    have i2 := knots_D g _ k (left - 1) S hw.2.2 (by omega) (by omega) (by omega)
    have kf := kn_pos f
    have kg := kn_pos g
    have l0 : ¬ left = 0 := by omega
    have k0 : ¬ (kn f : Int) = 0 := by omega
    have k1 : ¬ (kn f = 0) := by omega
    have k2 : ¬ (kn g : Int) = 0 := by omega
    have k3 : ¬ (kn g = 0) := by omega
    have k4 : ¬ (300 : Int) < 1 + (kn f : Int) := by omega
    have k5 : ¬ (300 : Int) < 1 + (kn f : Int) + (kn g : Int) := by omega
    simp [bodies, b_knots_if_t1, b_knots_if_t2, b_knots_if_t3, b_knots_if_t4, b_knots_if_t5, zEv, List.map_cons, List.map_nil, List.length_cons, List.length_nil, List.cons_append, List.nil_append, List.append_nil, List.getElem?_cons_zero, List.getElem?_cons_succ, List.set_cons_zero, List.set_cons_succ, ofString_inj, ofString_beq, Pc.d, l0, isD, tyD, at0, s6, isNon, len_mpp, sizeLine_eq, drop1, zip_mpp, gdTup, gsCons, gsNil, gdName, e1, i1, i2, k0, k1, k2, k3, k4, k5, kn]
    omega
  | .pick a c f g, sc, k + 1, left, S, hw, hl, hn, hk => by
    rw [Fk_s]
    simp only [cd] at hl hk
    simp only [kn] at hn
    obtain ⟨s1, s2, s3, s4, s5, s6, s7, s8⟩ := shape_D (k := k) (by omega) S
    have e1 := leaf_m (k := k) (by omega) a hw.1 S
    have i0 := knots_D c _ k (left - 1) S hw.2.1 (by omega) (by omega) (by omega)
    have i1 := knots_D f _ k (left - 1) S hw.2.2.1 (by omega) (by omega) (by omega)
    have i2 := knots_D g _ k (left - 1) S hw.2.2.2 (by omega) (by omega) (by omega)
    have kc := kn_pos c
    have kf := kn_pos f
    have kg := kn_pos g
    have l0 : ¬ left = 0 := by omega
    have j0 : ¬ (kn c : Int) = 0 := by omega
    have j1 : ¬ (kn c = 0) := by omega
    have k0 : ¬ (kn f : Int) = 0 := by omega
    have k1 : ¬ (kn f = 0) := by omega
    have k2 : ¬ (kn g : Int) = 0 := by omega
    have k3 : ¬ (kn g = 0) := by omega
    have k4 : ¬ (300 : Int) < 1 + (kn c : Int) := by omega
    have k5 : ¬ (300 : Int) < 1 + (kn c : Int) + (kn f : Int) := by omega
    have k6 : ¬ (300 : Int) < 1 + (kn c : Int) + (kn f : Int) + (kn g : Int) := by omega
    simp [bodies, b_knots_if_t1, b_knots_if_t2, b_knots_if_t3, b_knots_if_t4, b_knots_if_t5, zEv, List.map_cons, List.map_nil, List.length_cons, List.length_nil, List.cons_append, List.nil_append, List.append_nil, List.getElem?_cons_zero, List.getElem?_cons_succ, List.set_cons_zero, List.set_cons_succ, ofString_inj, ofString_beq, Pc.d, l0, isD, tyD, at0, s7, isNon, len_mppp, sizeLine_eq, drop1, zip_mppp, gdTup, gsCons, gsNil, gdName, e1, i0, i1, i2, j0, j1, k0, k1, k2, k3, k4, k5, k6, kn]
    omega
  | .shut .., _, _, _, _, h, _, _, _ => h.elim
  | .kept .., _, _, _, _, h, _, _, _ => h.elim
theorem is_piece_D {k : Nat} (p : Pc) (sc : List Str) (S : List O) (hw : wf p sc) (hl : cd p ≤ 30) (hn : kn p ≤ 300) (hk : cd p + 6 ≤ k) : Fk k .is_piece [p.d] S = some (.bl true, S) := by
  obtain ⟨k, rfl⟩ : ∃ j, k = j + 1 := ⟨k - 1, by omega⟩
  rw [Fk_s]
  have e := knots_D p sc k 30 S hw (by omega) hn (by omega)
  have kp := kn_pos p
  have k0 : (0 : Int) < (kn p : Int) := by omega
  have k1 : 0 < kn p := by omega
  simp [bodies, zEv, List.map_cons, List.map_nil, List.length_cons, List.length_nil, List.cons_append, List.nil_append, List.append_nil, List.getElem?_cons_zero, List.getElem?_cons_succ, List.set_cons_zero, List.set_cons_succ, ofString_inj, ofString_beq, e, k0, k1]
theorem wf_mono : ∀ {p : Pc} {sc sc' : List Str}, (∀ y ∈ sc, y ∈ sc') → wf p sc → wf p sc'
  | .num _, _, _, _, h => h
  | .name _, _, _, hs, h => ⟨hs _ h.1, h.2⟩
  | .fn a x b, sc, sc', hs, h => ⟨h.1, h.2.1, wf_mono (p := b) (sc := x :: sc) (fun y hy => by
      rcases List.mem_cons.mp hy with q | q
      · rw [q]; exact List.mem_cons_self
      · exact List.mem_cons_of_mem _ (hs y q)) h.2.2⟩
  | .call _ f g, _, _, hs, h => ⟨h.1, wf_mono (p := f) hs h.2.1, wf_mono (p := g) hs h.2.2⟩
  | .plus _ f g, _, _, hs, h => ⟨h.1, wf_mono (p := f) hs h.2.1, wf_mono (p := g) hs h.2.2⟩
  | .pick _ c f g, _, _, hs, h => ⟨h.1, wf_mono (p := c) hs h.2.1, wf_mono (p := f) hs h.2.2.1, wf_mono (p := g) hs h.2.2.2⟩
  | .rnd b, sc, sc', hs, h => by
    have h' : wf b sc := h
    show wf b sc'
    exact wf_mono (p := b) hs h'
  | .take a x b, sc, sc', hs, h => ⟨h.1, h.2.1, wf_mono (p := b) (sc := x :: sc) (fun y hy => by
      rcases List.mem_cons.mp hy with q | q
      · rw [q]; exact List.mem_cons_self
      · exact List.mem_cons_of_mem _ (hs y q)) h.2.2⟩
  | .shut .., _, _, _, h => h.elim
  | .kept .., _, _, _, h => h.elim
/-- the free names, each once, as they come -/
def fvs : List Str → Pc → List Str → List Str
  | bd, .name x, acc => if x ∈ bd then acc else if x ∈ acc then acc else acc ++ [x]
  | bd, .fn _ x b, acc => fvs (bd ++ [x]) b acc
  | bd, .take _ x b, acc => fvs (bd ++ [x]) b acc
  | bd, .rnd b, acc => fvs bd b acc
  | bd, .call _ f g, acc => fvs bd g (fvs bd f acc)
  | bd, .plus _ f g, acc => fvs bd g (fvs bd f acc)
  | bd, .pick _ c f g, acc => fvs bd g (fvs bd f (fvs bd c acc))
  | _, _, acc => acc
theorem fvs_len : ∀ (p : Pc) (bd acc : List Str), (fvs bd p acc).length ≤ acc.length + kn p
  | .name x, bd, acc => by simp only [fvs, kn]; split <;> (try split) <;> simp
  | .fn _ x b, bd, acc => by have := fvs_len b (bd ++ [x]) acc; simp only [fvs, kn]; omega
  | .take _ x b, bd, acc => by have := fvs_len b (bd ++ [x]) acc; simp only [fvs, kn]; omega
  | .rnd b, bd, acc => by have := fvs_len b bd acc; simp only [fvs, kn]; omega
  | .call _ f g, bd, acc => by have := fvs_len f bd acc; have := fvs_len g bd (fvs bd f acc); simp only [fvs, kn]; omega
  | .plus _ f g, bd, acc => by have := fvs_len f bd acc; have := fvs_len g bd (fvs bd f acc); simp only [fvs, kn]; omega
  | .pick _ c f g, bd, acc => by have := fvs_len c bd acc; have := fvs_len f bd (fvs bd c acc); have := fvs_len g bd (fvs bd f (fvs bd c acc)); simp only [fvs, kn]; omega
  | .num _, bd, acc => by simp [fvs]
  | .shut .., bd, acc => by simp [fvs]
  | .kept .., bd, acc => by simp [fvs]
/-- what is free stands in the scope, is not bound, or was there -/
theorem fvs_mem : ∀ (p : Pc) (sc bd acc : List Str), wf p sc → ∀ y ∈ fvs bd p acc, y ∈ acc ∨ (y ∈ sc ∧ y ∉ bd)
  | .name x, sc, bd, acc, hw, y, hy => by
    simp only [fvs] at hy
    split at hy
    · exact .inl hy
    · split at hy
      · exact .inl hy
      · rename_i hb _
        rcases List.mem_append.mp hy with q | q
        · exact .inl q
        · simp at q; subst q; exact .inr ⟨hw.1, hb⟩
  | .fn _ x b, sc, bd, acc, hw, y, hy => by
    rcases fvs_mem b (x :: sc) (bd ++ [x]) acc hw.2.2 y hy with q | ⟨q1, q2⟩
    · exact .inl q
    · simp at q2
      rcases List.mem_cons.mp q1 with r | r
      · exact absurd r q2.2
      · exact .inr ⟨r, q2.1⟩
  | .take _ x b, sc, bd, acc, hw, y, hy => by
    rcases fvs_mem b (x :: sc) (bd ++ [x]) acc hw.2.2 y hy with q | ⟨q1, q2⟩
    · exact .inl q
    · simp at q2
      rcases List.mem_cons.mp q1 with r | r
      · exact absurd r q2.2
      · exact .inr ⟨r, q2.1⟩
  | .rnd b, sc, bd, acc, hw, y, hy => fvs_mem b sc bd acc hw y hy
  | .call _ f g, sc, bd, acc, hw, y, hy => by
    rcases fvs_mem g sc bd _ hw.2.2 y hy with q | q
    · exact fvs_mem f sc bd acc hw.2.1 y q
    · exact .inr q
  | .plus _ f g, sc, bd, acc, hw, y, hy => by
    rcases fvs_mem g sc bd _ hw.2.2 y hy with q | q
    · exact fvs_mem f sc bd acc hw.2.1 y q
    · exact .inr q
  | .pick _ c f g, sc, bd, acc, hw, y, hy => by
    rcases fvs_mem g sc bd _ hw.2.2.2 y hy with q | q
    · rcases fvs_mem f sc bd _ hw.2.2.1 y q with q | q
      · exact fvs_mem c sc bd acc hw.2.1 y q
      · exact .inr q
    · exact .inr q
  | .num _, _, _, acc, _, y, hy => .inl hy
  | .shut .., _, _, _, h, _, _ => h.elim
  | .kept .., _, _, _, h, _, _ => h.elim
theorem fvs_closed (p : Pc) (hw : wf p []) : fvs [] p [] = [] := by
  rw [List.eq_nil_iff_forall_not_mem]
  intro y hy
  rcases fvs_mem p [] [] [] hw y hy with q | q
  · simp at q
  · simp at q
/-- the dict of names -/
def nD (acc : List Str) : List (Key × D) := acc.map fun x => (Sum.inr x, D.bl true)
theorem nD_any (acc : List Str) (x : Str) : ((nD acc).any fun kv => decide (kv.1 = Sum.inr x)) = decide (x ∈ acc) := by
  unfold nD
  induction acc with
  | nil => simp
  | cons y r ih =>
    simp only [List.map_cons, List.any_cons, ih]
    by_cases h : y = x
    · subst h; simp
    · have h' : ¬ x = y := fun e => h e.symm
      simp [h, h']
theorem nD_put (acc : List Str) (x : Str) : putD (nD acc) (.inr x) (.bl true) = nD (if x ∈ acc then acc else acc ++ [x]) := by
  unfold putD
  rw [nD_any]
  by_cases h : x ∈ acc
  · rw [if_pos (by simpa using h), if_pos h]
    unfold nD
    rw [List.map_map]
    apply List.map_congr_left
    intro y hy
    show (if Sum.inr y = Sum.inr x then _ else _) = _
    split <;> rfl
  · rw [if_neg (by simpa using h), if_neg h]
    simp [nD]
theorem dIn_names (neg : Bool) (x : Str) (bd : List Str) (S : List O) : dIn neg (.str x) (sD bd) S = some (.bl (if neg then !decide (x ∈ bd) else decide (x ∈ bd))) := by
  unfold dIn sD
  simp only [seqA, seqL, Option.bind_some]
  have h1 : (bd.map D.str).all flatD = true := by simp [flatD]
  have h2 : ((bd.map D.str).any fun z => eqF z (.str x)) = decide (x ∈ bd) := by
    induction bd with
    | nil => simp
    | cons y r ih =>
      have ih := ih (by simp [flatD])
      have e0 : eqF (.str y) (.str x) = (y == x) := rfl
      simp only [List.map_cons, List.any_cons, ih, e0]
      by_cases h : y = x
      · subst h; simp
      · have h' : ¬ x = y := fun e => h e.symm
        simp [h, h']
  rw [if_pos ⟨rfl, h1⟩, h2]
def FdS (S : List O) (j : Nat) (acc : List Str) : List O := S.set j (.dic (nD acc))
theorem FdS_len (S : List O) (j : Nat) (acc : List Str) : (FdS S j acc).length = S.length := List.length_set
theorem FdS_put {S : List O} {j : Nat} (hj : j < S.length) (acc : List Str) (x : Str) (hl : acc.length < 1000) : setO (FdS S j acc) (.ref j) (dpF (.inr x) (.bl true)) = some (FdS S j (if x ∈ acc then acc else acc ++ [x])) := by
  unfold setO FdS
  have h1 : (nD acc).length < 16777216 := by simp [nD]; omega
  simp [hj, dpF, h1, nD_put]
theorem note_D : ∀ (p : Pc) (sc bd acc : List Str) (k : Nat) (S : List O) (j : Nat), wf p sc → j < S.length → acc.length + kn p ≤ 900 → bd.length + cd p ≤ 900 → cd p ≤ k → Fk k .note_free [p.d, sD bd, .ref j] (FdS S j acc) = some (.non, FdS S j (fvs bd p acc))
  | p, _, _, _, 0, _, _, _, _, _, _, h => by have := cd_pos p; omega
  | .num n, sc, bd, acc, k + 1, S, j, hw, hj, ha, hb, hk => by
    rw [Fk_s]
    simp [bodies, zEv, List.map_cons, List.map_nil, List.length_cons, List.length_nil, List.cons_append, List.nil_append, List.append_nil, List.getElem?_cons_zero, List.getElem?_cons_succ, List.set_cons_zero, List.set_cons_succ, ofString_inj, ofString_beq, Pc.d, at0, fvs]
  | .name x, sc, bd, acc, k + 1, S, j, hw, hj, ha, hb, hk => by
    rw [Fk_s]
    simp only [kn] at ha
    have e := dIn_names true x bd (FdS S j acc)
    have ep := FdS_put hj acc x (by omega)
    by_cases h : x ∈ bd
    · simp [bodies, zEv, List.map_cons, List.map_nil, List.length_cons, List.length_nil, List.cons_append, List.nil_append, List.append_nil, List.getElem?_cons_zero, List.getElem?_cons_succ, List.set_cons_zero, List.set_cons_succ, ofString_inj, ofString_beq, Pc.d, at0, at1, e, h, fvs]
    · simp [bodies, zEv, List.map_cons, List.map_nil, List.length_cons, List.length_nil, List.cons_append, List.nil_append, List.append_nil, List.getElem?_cons_zero, List.getElem?_cons_succ, List.set_cons_zero, List.set_cons_succ, ofString_inj, ofString_beq, Pc.d, at0, at1, e, h, fvs, ep, FdS_len]
  | .fn a x b, sc, bd, acc, k + 1, S, j, hw, hj, ha, hb, hk => by
    rw [Fk_s]
    simp only [cd] at hb hk
    simp only [kn] at ha
    have ih := note_D b (x :: sc) (bd ++ [x]) acc k S j hw.2.2 hj (by omega) (by simp; omega) (by omega)
    have ea : (sD bd : D) = .lst (bd.map D.str) := rfl
    have eb : (sD (bd ++ [x]) : D) = .lst (bd.map D.str ++ [.str x]) := by simp [sD]
    rw [eb] at ih
    have hl : bd.length + 1 ≤ 16777216 := by omega
    rw [ea]
    simp [bodies, zEv, List.map_cons, List.map_nil, List.length_cons, List.length_nil, List.cons_append, List.nil_append, List.append_nil, List.getElem?_cons_zero, List.getElem?_cons_succ, List.set_cons_zero, List.set_cons_succ, ofString_inj, ofString_beq, Pc.d, at0, at2, at3, fvs, ih, sizeLine_eq, hl, FdS_len]
  | .take a x b, sc, bd, acc, k + 1, S, j, hw, hj, ha, hb, hk => by
    rw [Fk_s]
    simp only [cd] at hb hk
    simp only [kn] at ha
    have ih := note_D b (x :: sc) (bd ++ [x]) acc k S j hw.2.2 hj (by omega) (by simp; omega) (by omega)
    have ea : (sD bd : D) = .lst (bd.map D.str) := rfl
    have eb : (sD (bd ++ [x]) : D) = .lst (bd.map D.str ++ [.str x]) := by simp [sD]
    rw [eb] at ih
    have hl : bd.length + 1 ≤ 16777216 := by omega
    rw [ea]
    simp [bodies, zEv, List.map_cons, List.map_nil, List.length_cons, List.length_nil, List.cons_append, List.nil_append, List.append_nil, List.getElem?_cons_zero, List.getElem?_cons_succ, List.set_cons_zero, List.set_cons_succ, ofString_inj, ofString_beq, Pc.d, at0, at2, at3, fvs, ih, sizeLine_eq, hl, FdS_len]
  | .rnd b, sc, bd, acc, k + 1, S, j, hw, hj, ha, hb, hk => by
    rw [Fk_s]
    simp only [cd] at hb hk
    simp only [kn] at ha
    have hw : wf b sc := hw
    have ih := note_D b sc bd acc k S j hw hj (by omega) (by omega) (by omega)
    simp [bodies, zEv, List.map_cons, List.map_nil, List.length_cons, List.length_nil, List.cons_append, List.nil_append, List.append_nil, List.getElem?_cons_zero, List.getElem?_cons_succ, List.set_cons_zero, List.set_cons_succ, ofString_inj, ofString_beq, Pc.d, at0, at1, fvs, ih, FdS_len]
  | .call a f g, sc, bd, acc, k + 1, S, j, hw, hj, ha, hb, hk => by
    rw [Fk_s]
    simp only [cd] at hb hk
    simp only [kn] at ha
    have l1 := fvs_len f bd acc
    have i1 := note_D f sc bd acc k S j hw.2.1 hj (by omega) (by omega) (by omega)
    have i2 := note_D g sc bd (fvs bd f acc) k S j hw.2.2 hj (by omega) (by omega) (by omega)
    simp [bodies, zEv, List.map_cons, List.map_nil, List.length_cons, List.length_nil, List.cons_append, List.nil_append, List.append_nil, List.getElem?_cons_zero, List.getElem?_cons_succ, List.set_cons_zero, List.set_cons_succ, ofString_inj, ofString_beq, Pc.d, at0, fvs, drop2, i1, i2, FdS_len]
  | .plus a f g, sc, bd, acc, k + 1, S, j, hw, hj, ha, hb, hk => by
    rw [Fk_s]
    simp only [cd] at hb hk
    simp only [kn] at ha
    have l1 := fvs_len f bd acc
    have i1 := note_D f sc bd acc k S j hw.2.1 hj (by omega) (by omega) (by omega)
    have i2 := note_D g sc bd (fvs bd f acc) k S j hw.2.2 hj (by omega) (by omega) (by omega)
    simp [bodies, zEv, List.map_cons, List.map_nil, List.length_cons, List.length_nil, List.cons_append, List.nil_append, List.append_nil, List.getElem?_cons_zero, List.getElem?_cons_succ, List.set_cons_zero, List.set_cons_succ, ofString_inj, ofString_beq, Pc.d, at0, fvs, drop2, i1, i2, FdS_len]
  | .pick a c f g, sc, bd, acc, k + 1, S, j, hw, hj, ha, hb, hk => by
    rw [Fk_s]
    simp only [cd] at hb hk
    simp only [kn] at ha
    have l0 := fvs_len c bd acc
    have l1 := fvs_len f bd (fvs bd c acc)
    have i0 := note_D c sc bd acc k S j hw.2.1 hj (by omega) (by omega) (by omega)
    have i1 := note_D f sc bd (fvs bd c acc) k S j hw.2.2.1 hj (by omega) (by omega) (by omega)
    have i2 := note_D g sc bd (fvs bd f (fvs bd c acc)) k S j hw.2.2.2 hj (by omega) (by omega) (by omega)
    simp [bodies, zEv, List.map_cons, List.map_nil, List.length_cons, List.length_nil, List.cons_append, List.nil_append, List.append_nil, List.getElem?_cons_zero, List.getElem?_cons_succ, List.set_cons_zero, List.set_cons_succ, ofString_inj, ofString_beq, Pc.d, at0, fvs, drop2, i0, i1, i2, FdS_len]
  | .shut .., _, _, _, _, _, _, h, _, _, _, _ => h.elim
  | .kept .., _, _, _, _, _, _, h, _, _, _, _ => h.elim
theorem FdS_new (S : List O) (acc acc' : List Str) : FdS (S ++ [.dic (nD acc)]) S.length acc' = S ++ [.dic (nD acc')] := by simp [FdS]
theorem strL_map : ∀ l : List Str, strL (l.map D.str) = some l
  | [] => rfl
  | x :: r => by rw [List.map_cons, strL_c, strL_map r, slK9_1]
theorem free_D {k : Nat} (p : Pc) (sc : List Str) (S : List O) (ok : okS S) (hw : wf p sc) (hn : kn p ≤ 300) (hc : cd p ≤ 100) (hk : cd p + 1 ≤ k) (h64 : (fvs [] p []).length < 64) : Fk k .free_names [p.d] S = some (.lst ((sortS (fvs [] p [])).map .str), S) := by
  obtain ⟨k, rfl⟩ : ∃ j, k = j + 1 := ⟨k - 1, by omega⟩
  rw [Fk_s]
  have e := note_D p sc [] [] k (S ++ [.dic (nD [])]) S.length hw (by simp) (by simp; omega) (by simp; omega) (by omega)
  rw [FdS_new, FdS_new] at e
  simp only [sD, List.map_nil] at e
  have e0 : (nD [] : List (Key × D)) = [] := rfl
  rw [e0] at e
  have el : blListD [.ref S.length] (S ++ [.dic (nD (fvs [] p []))]) = some ((fvs [] p []).map .str) := by
    unfold blListD
    simp only [dicS_r]
    simp [dicO_1, nD, kD]
  have es : blSort [.lst ((fvs [] p []).map .str)] (S ++ [.dic (nD (fvs [] p []))]) = some ((sortS (fvs [] p [])).map .str) := by
    rw [blSort_1, seqL_l, bsK_1, strL_map, bsK2_1, if_pos h64]
  have g := gc_new (S := S) (d := .lst ((sortS (fvs [] p [])).map .str)) (o := .dic (nD (fvs [] p []))) ok (by
    simp only [okD]
    refine okDs_all _ _ fun d hd => ?_
    obtain ⟨x, _, rfl⟩ := List.mem_map.mp hd
    rfl) (by simp)
  simp [bodies, zEv, List.map_cons, List.map_nil, List.length_cons, List.length_nil, List.cons_append, List.nil_append, List.append_nil, List.getElem?_cons_zero, List.getElem?_cons_succ, List.set_cons_zero, List.set_cons_succ, ofString_inj, ofString_beq, e, el, es, g]
theorem is_closed_D {k : Nat} (p : Pc) (S : List O) (ok : okS S) (hw : wf p []) (hl : cd p ≤ 30) (hn : kn p ≤ 300) (hk : cd p + 7 ≤ k) : Fk k .is_closed [p.d] S = some (.bl true, S) := by
  obtain ⟨k, rfl⟩ : ∃ j, k = j + 1 := ⟨k - 1, by omega⟩
  rw [Fk_s]
  have e := is_piece_D (k := k) p [] S hw hl hn (by omega)
  have f := free_D (k := k) p [] S ok hw hn (by omega) (by omega) (by rw [fvs_closed p hw]; decide)
  rw [fvs_closed p hw] at f
  have z : sortS [] = [] := by
    have := (sortS_perm []).length_eq
    exact List.eq_nil_of_length_eq_zero this
  rw [z] at f
  simp only [List.map_nil] at f
  have en : dEq 64 (.lst []) (.lst []) S = some (.bl true) := by
    unfold dEq dEqv
    simp [pyS, py, pyL, PyData.canLay0, PyData.canLayAll0, PyData.depth, PyData.depthAll, PyData.eqv, PyData.eqvAll]
  simp [bodies, zEv, List.map_cons, List.map_nil, List.length_cons, List.length_nil, List.cons_append, List.nil_append, List.append_nil, List.getElem?_cons_zero, List.getElem?_cons_succ, List.set_cons_zero, List.set_cons_succ, ofString_inj, ofString_beq, e, f, en]
theorem nodup_snoc' {l : List Str} {x : Str} (h : l.Nodup) (hx : x ∉ l) : (l ++ [x]).Nodup := by
  rw [List.nodup_append]
  exact ⟨h, by simp, fun a ha b hb => by simp at hb; subst hb; exact fun e => hx (e ▸ ha)⟩
theorem fvs_acc : ∀ (p : Pc) (bd acc : List Str), ∀ y ∈ acc, y ∈ fvs bd p acc
  | .name x, bd, acc, y, h => by simp only [fvs]; split <;> (try split) <;> simp [h]
  | .fn _ x b, bd, acc, y, h => fvs_acc b (bd ++ [x]) acc y h
  | .take _ x b, bd, acc, y, h => fvs_acc b (bd ++ [x]) acc y h
  | .rnd b, bd, acc, y, h => fvs_acc b bd acc y h
  | .call _ f g, bd, acc, y, h => fvs_acc g bd _ y (fvs_acc f bd acc y h)
  | .plus _ f g, bd, acc, y, h => fvs_acc g bd _ y (fvs_acc f bd acc y h)
  | .pick _ c f g, bd, acc, y, h => fvs_acc g bd _ y (fvs_acc f bd _ y (fvs_acc c bd acc y h))
  | .num _, bd, acc, y, h => h
  | .shut .., bd, acc, y, h => h
  | .kept .., bd, acc, y, h => h
theorem fvs_all (y : Str) : ∀ (p : Pc) (bd acc : List Str), fr y p → y ∉ bd → y ∈ fvs bd p acc
  | .name x, bd, acc, h, hb => by
    have h : y = x := h
    subst h
    simp only [fvs, if_neg hb]
    split <;> simp_all
  | .fn _ x b, bd, acc, h, hb => fvs_all y b (bd ++ [x]) acc h.2 (by simp [hb, h.1])
  | .take _ x b, bd, acc, h, hb => fvs_all y b (bd ++ [x]) acc h.2 (by simp [hb, h.1])
  | .rnd b, bd, acc, h, hb => by have h : fr y b := h; exact fvs_all y b bd acc h hb
  | .call _ f g, bd, acc, h, hb => by
    rcases h with h | h
    · exact fvs_acc g bd _ y (fvs_all y f bd acc h hb)
    · exact fvs_all y g bd _ h hb
  | .plus _ f g, bd, acc, h, hb => by
    rcases h with h | h
    · exact fvs_acc g bd _ y (fvs_all y f bd acc h hb)
    · exact fvs_all y g bd _ h hb
  | .pick _ c f g, bd, acc, h, hb => by
    rcases h with h | h | h
    · exact fvs_acc g bd _ y (fvs_acc f bd _ y (fvs_all y c bd acc h hb))
    · exact fvs_acc g bd _ y (fvs_all y f bd _ h hb)
    · exact fvs_all y g bd _ h hb
  | .num _, _, _, h, _ => h.elim
  | .shut .., _, _, h, _ => h.elim
  | .kept .., _, _, h, _ => h.elim
theorem fvs_nodup : ∀ (p : Pc) (bd acc : List Str), acc.Nodup → (fvs bd p acc).Nodup
  | .name x, bd, acc, h => by
    simp only [fvs]
    split
    · exact h
    · split
      · exact h
      · exact nodup_snoc' h (by assumption)
  | .fn _ x b, bd, acc, h => fvs_nodup b _ _ h
  | .take _ x b, bd, acc, h => fvs_nodup b _ _ h
  | .rnd b, bd, acc, h => fvs_nodup b _ _ h
  | .call _ f g, bd, acc, h => fvs_nodup g _ _ (fvs_nodup f _ _ h)
  | .plus _ f g, bd, acc, h => fvs_nodup g _ _ (fvs_nodup f _ _ h)
  | .pick _ c f g, bd, acc, h => fvs_nodup g _ _ (fvs_nodup f _ _ (fvs_nodup c _ _ h))
  | .num _, bd, acc, h => h
  | .shut .., bd, acc, h => h
  | .kept .., bd, acc, h => h
/-! ## the free names -/
theorem fvs_fr : ∀ (p : Pc) (bd acc : List Str), ∀ y ∈ fvs bd p acc, y ∈ acc ∨ fr y p
  | .name x, bd, acc, y, hy => by
    simp only [fvs] at hy
    split at hy
    · exact .inl hy
    · split at hy
      · exact .inl hy
      · rcases List.mem_append.mp hy with q | q
        · exact .inl q
        · simp at q; exact .inr q
  | .fn _ x b, bd, acc, y, hy => by
    rcases fvs_fr b (bd ++ [x]) acc y hy with q | q
    · exact .inl q
    · by_cases hx : y = x
      · rcases fvs_bd b (bd ++ [x]) acc y hy with r | r
        · exact .inl r
        · exact absurd (by rw [hx]; simp) r
      · exact .inr ⟨hx, q⟩
  | .take _ x b, bd, acc, y, hy => by
    rcases fvs_fr b (bd ++ [x]) acc y hy with q | q
    · exact .inl q
    · by_cases hx : y = x
      · rcases fvs_bd b (bd ++ [x]) acc y hy with r | r
        · exact .inl r
        · exact absurd (by rw [hx]; simp) r
      · exact .inr ⟨hx, q⟩
  | .rnd b, bd, acc, y, hy => fvs_fr b bd acc y hy
  | .call _ f g, bd, acc, y, hy => by
    rcases fvs_fr g bd _ y hy with q | q
    · rcases fvs_fr f bd acc y q with q | q
      · exact .inl q
      · exact .inr (.inl q)
    · exact .inr (.inr q)
  | .plus _ f g, bd, acc, y, hy => by
    rcases fvs_fr g bd _ y hy with q | q
    · rcases fvs_fr f bd acc y q with q | q
      · exact .inl q
      · exact .inr (.inl q)
    · exact .inr (.inr q)
  | .pick _ c f g, bd, acc, y, hy => by
    rcases fvs_fr g bd _ y hy with q | q
    · rcases fvs_fr f bd _ y q with q | q
      · rcases fvs_fr c bd acc y q with q | q
        · exact .inl q
        · exact .inr (.inl q)
      · exact .inr (.inr (.inl q))
    · exact .inr (.inr (.inr q))
  | .num _, _, _, _, hy => .inl hy
  | .shut .., _, _, _, hy => .inl hy
  | .kept .., _, _, _, hy => .inl hy
where fvs_bd : ∀ (p : Pc) (bd acc : List Str), ∀ y ∈ fvs bd p acc, y ∈ acc ∨ y ∉ bd
  | .name x, bd, acc, y, hy => by
    simp only [fvs] at hy
    split at hy
    · exact .inl hy
    · split at hy
      · exact .inl hy
      · rename_i hb _
        rcases List.mem_append.mp hy with q | q
        · exact .inl q
        · simp at q; rw [q]; exact .inr hb
  | .fn _ x b, bd, acc, y, hy => by
    rcases fvs_bd b (bd ++ [x]) acc y hy with q | q
    · exact .inl q
    · exact .inr fun r => q (List.mem_append_left _ r)
  | .take _ x b, bd, acc, y, hy => by
    rcases fvs_bd b (bd ++ [x]) acc y hy with q | q
    · exact .inl q
    · exact .inr fun r => q (List.mem_append_left _ r)
  | .rnd b, bd, acc, y, hy => fvs_bd b bd acc y hy
  | .call _ f g, bd, acc, y, hy => by
    rcases fvs_bd g bd _ y hy with q | q
    · exact fvs_bd f bd acc y q
    · exact .inr q
  | .plus _ f g, bd, acc, y, hy => by
    rcases fvs_bd g bd _ y hy with q | q
    · exact fvs_bd f bd acc y q
    · exact .inr q
  | .pick _ c f g, bd, acc, y, hy => by
    rcases fvs_bd g bd _ y hy with q | q
    · rcases fvs_bd f bd _ y q with q | q
      · exact fvs_bd c bd acc y q
      · exact .inr q
    · exact .inr q
  | .num _, _, _, _, hy => .inl hy
  | .shut .., _, _, _, hy => .inl hy
  | .kept .., _, _, _, hy => .inl hy
/-- as the law goes through it -/
def lf : Pc → List Str
  | .name x => [x]
  | .fn _ x b => (lf b).filter fun y => !decide (y = x)
  | .take _ x b => (lf b).filter fun y => !decide (y = x)
  | .rnd b => lf b
  | .call _ f g => lf f ++ lf g
  | .plus _ f g => lf f ++ lf g
  | .pick _ c f g => lf c ++ lf f ++ lf g
  | _ => []
theorem lf_len : ∀ p : Pc, (lf p).length ≤ kn p
  | .name x => by simp [lf, kn]
  | .fn _ x b => by have := lf_len b; have := List.length_filter_le (fun y => !decide (y = x)) (lf b); simp only [lf, kn]; omega
  | .take _ x b => by have := lf_len b; have := List.length_filter_le (fun y => !decide (y = x)) (lf b); simp only [lf, kn]; omega
  | .rnd b => by have := lf_len b; simp only [lf, kn]; omega
  | .call _ f g => by have := lf_len f; have := lf_len g; simp only [lf, kn, List.length_append]; omega
  | .plus _ f g => by have := lf_len f; have := lf_len g; simp only [lf, kn, List.length_append]; omega
  | .pick _ c f g => by have := lf_len c; have := lf_len f; have := lf_len g; simp only [lf, kn, List.length_append]; omega
  | .num _ => by simp [lf]
  | .shut .. => by simp [lf]
  | .kept .. => by simp [lf]
theorem lf_fr (y : Str) : ∀ p : Pc, y ∈ lf p ↔ fr y p
  | .name x => by simp [lf, fr]
  | .fn _ x b => by have := lf_fr y b; simp [lf, fr, this]; exact And.comm
  | .take _ x b => by have := lf_fr y b; simp [lf, fr, this]; exact And.comm
  | .rnd b => lf_fr y b
  | .call _ f g => by simp [lf, fr, lf_fr y f, lf_fr y g]
  | .plus _ f g => by simp [lf, fr, lf_fr y f, lf_fr y g]
  | .pick _ c f g => by simp [lf, fr, lf_fr y c, lf_fr y f, lf_fr y g, or_assoc]
  | .num _ => by simp [lf, fr]
  | .shut .. => by simp [lf, fr]
  | .kept .. => by simp [lf, fr]
theorem sortS_same {l l' : List Str} (h : l.Perm l') : sortS l = sortS l' := List.Perm.eq_of_pairwise (fun a b _ _ => leS_anti) (sortS_pw l) (sortS_pw l') ((sortS_perm l).trans (h.trans (sortS_perm l').symm))
theorem due_is (p : Pc) : (fvs [] p []).Perm (dedS (lf p)) := perm_nodup (fvs_nodup p [] [] List.nodup_nil) (dedS_nodup _) fun y => by
  rw [dedS_mem, lf_fr]
  constructor
  · intro h
    rcases fvs_fr p [] [] y h with q | q
    · simp at q
    · exact q
  · intro h; exact fvs_all y p [] [] h (by simp)
/-! ### the law's walk -/
theorem free_lc (p0 : D) (x : Str) (S : List O) (hz : dIx p0 (.int 2) S = some (.str x)) : ∀ xs : List Str, lcD (gdName 3) (tOf (eOp (dNe 64) (eVar 3) (eOp dIx (eVar 0) (eC (.int 2))))) (eVar 3) [some p0, none, none, none] (xs.map D.str) S = some ((xs.filter fun y => !decide (y = x)).map D.str, S)
  | [] => rfl
  | y :: r => by
    have ih := free_lc p0 x S hz r
    rw [List.map_cons, lcD_c]
    by_cases h : y = x
    · simp [zEv, List.map_cons, List.map_nil, List.length_cons, List.length_nil, List.cons_append, List.nil_append, List.append_nil, List.getElem?_cons_zero, List.getElem?_cons_succ, List.set_cons_zero, List.set_cons_succ, ofString_inj, ofString_beq, hz, h, ih, List.filter_cons]
    · simp [zEv, List.map_cons, List.map_nil, List.length_cons, List.length_nil, List.cons_append, List.nil_append, List.append_nil, List.getElem?_cons_zero, List.getElem?_cons_succ, List.set_cons_zero, List.set_cons_succ, ofString_inj, ofString_beq, hz, h, ih, List.filter_cons]
theorem isT_pc (S : List O) (p : Pc) : isD "tuple" S p.d = some true := by cases p <;> simp [Pc.d, isD, tyD]
theorem isT_int (S : List O) (i : Int) : isD "tuple" S (.int i) = some false := by simp [isD, tyD]
theorem isT_str (S : List O) (i : Str) : isD "tuple" S (.str i) = some false := by simp [isD, tyD]
theorem lawfree_D : ∀ (p : Pc) (sc : List Str) (k : Nat) (S : List O), wf p sc → kn p ≤ 1000 → cd p ≤ k → Fk k ._law_free [p.d] S = some (.lst ((lf p).map .str), S)
  | p, _, 0, _, _, _, h => by have := cd_pos p; omega
  | .num n, sc, k + 1, S, hw, hn, hk => by
    rw [Fk_s]
    simp [bodies, b__law_free_t1, b__law_free_t2, b__law_free_t3, b__law_free_t4, b__law_free_t5, zEv, List.map_cons, List.map_nil, List.length_cons, List.length_nil, List.cons_append, List.nil_append, List.append_nil, List.getElem?_cons_zero, List.getElem?_cons_succ, List.set_cons_zero, List.set_cons_succ, ofString_inj, ofString_beq, Pc.d, at0, lf]
  | .name x, sc, k + 1, S, hw, hn, hk => by
    rw [Fk_s]
    simp [bodies, b__law_free_t1, b__law_free_t2, b__law_free_t3, b__law_free_t4, b__law_free_t5, zEv, List.map_cons, List.map_nil, List.length_cons, List.length_nil, List.cons_append, List.nil_append, List.append_nil, List.getElem?_cons_zero, List.getElem?_cons_succ, List.set_cons_zero, List.set_cons_succ, ofString_inj, ofString_beq, Pc.d, at0, at1, lf]
  | .fn a x b, sc, k + 1, S, hw, hn, hk => by
    rw [Fk_s]
    simp only [cd] at hk
    simp only [kn] at hn
    have ih := lawfree_D b _ k S hw.2.2 (by omega) (by omega)
    have ll := lf_len b
    have l1 : (lf b).length ≤ 10000000 := by omega
    have lc := free_lc (.tup [.str "fun", .int a, .str x, b.d]) x S (by simp [zEv, List.map_cons, List.map_nil, List.length_cons, List.length_nil, List.cons_append, List.nil_append, List.append_nil, List.getElem?_cons_zero, List.getElem?_cons_succ, List.set_cons_zero, List.set_cons_succ, ofString_inj, ofString_beq, at2]) (lf b)
    simp [bodies, b__law_free_t1, b__law_free_t2, b__law_free_t3, b__law_free_t4, b__law_free_t5, zEv, List.map_cons, List.map_nil, List.length_cons, List.length_nil, List.cons_append, List.nil_append, List.append_nil, List.getElem?_cons_zero, List.getElem?_cons_succ, List.set_cons_zero, List.set_cons_succ, ofString_inj, ofString_beq, Pc.d, at0, at3, ih, l1, lc, lf]
  | .take a x b, sc, k + 1, S, hw, hn, hk => by
    rw [Fk_s]
    simp only [cd] at hk
    simp only [kn] at hn
    have ih := lawfree_D b _ k S hw.2.2 (by omega) (by omega)
    have ll := lf_len b
    have l1 : (lf b).length ≤ 10000000 := by omega
    have lc := free_lc (.tup [.str "take", .int a, .str x, b.d]) x S (by simp [zEv, List.map_cons, List.map_nil, List.length_cons, List.length_nil, List.cons_append, List.nil_append, List.append_nil, List.getElem?_cons_zero, List.getElem?_cons_succ, List.set_cons_zero, List.set_cons_succ, ofString_inj, ofString_beq, at2]) (lf b)
    simp [bodies, b__law_free_t1, b__law_free_t2, b__law_free_t3, b__law_free_t4, b__law_free_t5, zEv, List.map_cons, List.map_nil, List.length_cons, List.length_nil, List.cons_append, List.nil_append, List.append_nil, List.getElem?_cons_zero, List.getElem?_cons_succ, List.set_cons_zero, List.set_cons_succ, ofString_inj, ofString_beq, Pc.d, at0, at3, ih, l1, lc, lf]
  | .rnd b, sc, k + 1, S, hw, hn, hk => by
    rw [Fk_s]
    simp only [cd] at hk
    simp only [kn] at hn
    have hw : wf b sc := hw
    have ih := lawfree_D b _ k S hw (by omega) (by omega)
    have ll := lf_len b
    have l1 : (lf b).length ≤ 16777216 := by omega
    simp [bodies, b__law_free_t1, b__law_free_t2, b__law_free_t3, b__law_free_t4, b__law_free_t5, zEv, List.map_cons, List.map_nil, List.length_cons, List.length_nil, List.cons_append, List.nil_append, List.append_nil, List.getElem?_cons_zero, List.getElem?_cons_succ, List.set_cons_zero, List.set_cons_succ, ofString_inj, ofString_beq, Pc.d, at0, drop1, isT_pc, isT_int, isT_str, ih, sizeLine_eq, l1, lf]
  | .call a f g, sc, k + 1, S, hw, hn, hk => by
    rw [Fk_s]
    simp only [cd] at hk
    simp only [kn] at hn
    have i1 := lawfree_D f _ k S hw.2.1 (by omega) (by omega)
    have i2 := lawfree_D g _ k S hw.2.2 (by omega) (by omega)
    have ll := lf_len f
    have l2 := lf_len g
    have l1 : (lf f).length ≤ 16777216 := by omega
    have l3 : (lf f).length + (lf g).length ≤ 16777216 := by omega
    simp [bodies, b__law_free_t1, b__law_free_t2, b__law_free_t3, b__law_free_t4, b__law_free_t5, zEv, List.map_cons, List.map_nil, List.length_cons, List.length_nil, List.cons_append, List.nil_append, List.append_nil, List.getElem?_cons_zero, List.getElem?_cons_succ, List.set_cons_zero, List.set_cons_succ, ofString_inj, ofString_beq, Pc.d, at0, drop1, isT_pc, isT_int, isT_str, i1, i2, sizeLine_eq, l1, l3, lf]
  | .plus a f g, sc, k + 1, S, hw, hn, hk => by
    rw [Fk_s]
    simp only [cd] at hk
    simp only [kn] at hn
    have i1 := lawfree_D f _ k S hw.2.1 (by omega) (by omega)
    have i2 := lawfree_D g _ k S hw.2.2 (by omega) (by omega)
    have ll := lf_len f
    have l2 := lf_len g
    have l1 : (lf f).length ≤ 16777216 := by omega
    have l3 : (lf f).length + (lf g).length ≤ 16777216 := by omega
    simp [bodies, b__law_free_t1, b__law_free_t2, b__law_free_t3, b__law_free_t4, b__law_free_t5, zEv, List.map_cons, List.map_nil, List.length_cons, List.length_nil, List.cons_append, List.nil_append, List.append_nil, List.getElem?_cons_zero, List.getElem?_cons_succ, List.set_cons_zero, List.set_cons_succ, ofString_inj, ofString_beq, Pc.d, at0, drop1, isT_pc, isT_int, isT_str, i1, i2, sizeLine_eq, l1, l3, lf]
  | .pick a c f g, sc, k + 1, S, hw, hn, hk => by
    rw [Fk_s]
    simp only [cd] at hk
    simp only [kn] at hn
    have i0 := lawfree_D c _ k S hw.2.1 (by omega) (by omega)
    have i1 := lawfree_D f _ k S hw.2.2.1 (by omega) (by omega)
    have i2 := lawfree_D g _ k S hw.2.2.2 (by omega) (by omega)
    have l0 := lf_len c
    have ll := lf_len f
    have l2 := lf_len g
    have l1 : (lf c).length ≤ 16777216 := by omega
    have l3 : (lf c).length + (lf f).length ≤ 16777216 := by omega
    have l4 : (lf c).length + (lf f).length + (lf g).length ≤ 16777216 := by omega
    simp [bodies, b__law_free_t1, b__law_free_t2, b__law_free_t3, b__law_free_t4, b__law_free_t5, zEv, List.map_cons, List.map_nil, List.length_cons, List.length_nil, List.cons_append, List.nil_append, List.append_nil, List.getElem?_cons_zero, List.getElem?_cons_succ, List.set_cons_zero, List.set_cons_succ, ofString_inj, ofString_beq, Pc.d, at0, drop1, isT_pc, isT_int, isT_str, i0, i1, i2, sizeLine_eq, l1, l3, l4, lf]
  | .shut .., _, _, _, h, _, _ => h.elim
  | .kept .., _, _, _, h, _, _ => h.elim
/-! ## knots of any good piece, at any depth -/
def kf (p : Pc) (left : Nat) : Nat := if cd p ≤ left ∧ kn p ≤ 300 then kn p else 0
theorem kf_or (p : Pc) (left : Nat) : (kf p left = kn p ∧ cd p ≤ left ∧ kn p ≤ 300) ∨ (kf p left = 0 ∧ ¬ (cd p ≤ left ∧ kn p ≤ 300)) := by
  unfold kf
  split
  · exact .inl ⟨rfl, ‹_›⟩
  · exact .inr ⟨rfl, ‹_›⟩
theorem kf1 {q b : Pc} {left : Nat} (h1 : cd q = cd b + 1) (h2 : kn q = kn b + 1) : kf q (left + 1) = if kf b left = 0 then 0 else if 300 < 1 + kf b left then 0 else 1 + kf b left := by
  have kp := kn_pos b
  rcases kf_or q (left + 1) with ⟨e, h⟩ | ⟨e, h⟩ <;> rcases kf_or b left with ⟨e1, g⟩ | ⟨e1, g⟩ <;> rw [e, e1] <;> (repeat' split) <;> omega
theorem kf2 {q f g : Pc} {left : Nat} (h1 : cd q = max (cd f) (cd g) + 1) (h2 : kn q = kn f + kn g + 1) : kf q (left + 1) = if kf f left = 0 then 0 else if 300 < 1 + kf f left then 0 else if kf g left = 0 then 0 else if 300 < 1 + kf f left + kf g left then 0 else 1 + kf f left + kf g left := by
  have kp := kn_pos f
  have kp2 := kn_pos g
  rcases kf_or q (left + 1) with ⟨e, h⟩ | ⟨e, h⟩ <;> rcases kf_or f left with ⟨e1, g1⟩ | ⟨e1, g1⟩ <;> rcases kf_or g left with ⟨e2, g2⟩ | ⟨e2, g2⟩ <;> rw [e, e1] <;> (try rw [e2]) <;> (repeat' split) <;> omega
theorem kf3 {q c f g : Pc} {left : Nat} (h1 : cd q = max (cd c) (max (cd f) (cd g)) + 1) (h2 : kn q = kn c + kn f + kn g + 1) : kf q (left + 1) = if kf c left = 0 then 0 else if 300 < 1 + kf c left then 0 else if kf f left = 0 then 0 else if 300 < 1 + kf c left + kf f left then 0 else if kf g left = 0 then 0 else if 300 < 1 + kf c left + kf f left + kf g left then 0 else 1 + kf c left + kf f left + kf g left := by
  have hM : cd f ≤ max (cd f) (cd g) ∧ cd g ≤ max (cd f) (cd g) ∧ (max (cd f) (cd g) = cd f ∨ max (cd f) (cd g) = cd g) := by omega
  generalize max (cd f) (cd g) = M at h1 hM
  have hN : cd c ≤ max (cd c) M ∧ M ≤ max (cd c) M ∧ (max (cd c) M = cd c ∨ max (cd c) M = M) := by omega
  generalize max (cd c) M = N at h1 hN
  have kp := kn_pos c
  have kp1 := kn_pos f
  have kp2 := kn_pos g
  rcases kf_or q (left + 1) with ⟨e, h⟩ | ⟨e, h⟩ <;> rcases kf_or c left with ⟨e0, g0⟩ | ⟨e0, g0⟩ <;> rcases kf_or f left with ⟨e1, g1⟩ | ⟨e1, g1⟩ <;> rcases kf_or g left with ⟨e2, g2⟩ | ⟨e2, g2⟩ <;> simp only [e, e0, e1, e2, if_true, if_false] <;> (repeat' split) <;> omega
theorem knots_K : ∀ (p : Pc) (sc : List Str) (k left : Nat) (S : List O), wf p sc → left + 5 ≤ k → Fk k .knots_if [p.d, .int (left : Nat)] S = some (.int (kf p left : Nat), S)
  | p, _, 0, _, _, _, h => by omega
  | p, sc, k + 1, 0, S, hw, hk => by
    rw [Fk_s]
    have h0 : kf p 0 = 0 := by have := cd_pos p; unfold kf; rw [if_neg (by omega)]
    simp [bodies, b_knots_if_t1, b_knots_if_t2, b_knots_if_t3, b_knots_if_t4, b_knots_if_t5, zEv, List.map_cons, List.map_nil, List.length_cons, List.length_nil, List.cons_append, List.nil_append, List.append_nil, List.getElem?_cons_zero, List.getElem?_cons_succ, List.set_cons_zero, List.set_cons_succ, ofString_inj, ofString_beq, h0]
  | .num n, sc, k + 1, left + 1, S, hw, hk => by
    rw [Fk_s]
    obtain ⟨s1, s2, s3, s4, s5, s6, s7, s8⟩ := shape_D (k := k) (by omega) S
    have e1 := leaf_n (k := k) (by omega) n hw S
    have l0 : ¬ ((left : Int) + 1 = 0) := by omega
    have h0 : kf (.num n) (left + 1) = 1 := by unfold kf; simp [cd, kn]
    rw [h0]
    simp [bodies, b_knots_if_t1, b_knots_if_t2, b_knots_if_t3, b_knots_if_t4, b_knots_if_t5, zEv, List.map_cons, List.map_nil, List.length_cons, List.length_nil, List.cons_append, List.nil_append, List.append_nil, List.getElem?_cons_zero, List.getElem?_cons_succ, List.set_cons_zero, List.set_cons_succ, ofString_inj, ofString_beq, Pc.d, l0, isD, tyD, at0, s1, isNon, len_n, sizeLine_eq, drop1, zip_n, gdTup, gsCons, gsNil, gdName, e1]
  | .name x, sc, k + 1, left + 1, S, hw, hk => by
    rw [Fk_s]
    obtain ⟨s1, s2, s3, s4, s5, s6, s7, s8⟩ := shape_D (k := k) (by omega) S
    have e1 := leaf_w (k := k) (by omega) x hw.2 S
    have l0 : ¬ ((left : Int) + 1 = 0) := by omega
    have h0 : kf (.name x) (left + 1) = 1 := by unfold kf; simp [cd, kn]
    rw [h0]
    simp [bodies, b_knots_if_t1, b_knots_if_t2, b_knots_if_t3, b_knots_if_t4, b_knots_if_t5, zEv, List.map_cons, List.map_nil, List.length_cons, List.length_nil, List.cons_append, List.nil_append, List.append_nil, List.getElem?_cons_zero, List.getElem?_cons_succ, List.set_cons_zero, List.set_cons_succ, ofString_inj, ofString_beq, Pc.d, l0, isD, tyD, at0, s2, isNon, len_w, sizeLine_eq, drop1, zip_w, gdTup, gsCons, gsNil, gdName, e1]
  | .fn a x b, sc, k + 1, left + 1, S, hw, hk => by
    rw [Fk_s]
    obtain ⟨s1, s2, s3, s4, s5, s6, s7, s8⟩ := shape_D (k := k) (by omega) S
    have e1 := leaf_m (k := k) (by omega) a hw.1 S
    have e2 := leaf_w (k := k) (by omega) x hw.2.1 S
    have ih := knots_K b _ k left S hw.2.2 (by omega)
    have kp := kn_pos b
    have l0 : ¬ ((left : Int) + 1 = 0) := by omega
    have l1 : ((left : Int) + 1) - 1 = (left : Int) := by omega
    have h0 : kf (.fn a x b) (left + 1) = if kf b left = 0 then 0 else if 300 < 1 + kf b left then 0 else 1 + kf b left := kf1 (by simp only [cd]) (by simp only [kn])
    rw [h0]
    generalize kf b left = u at ih
    by_cases hu : u = 0
    · simp [bodies, b_knots_if_t1, b_knots_if_t2, b_knots_if_t3, b_knots_if_t4, b_knots_if_t5, zEv, List.map_cons, List.map_nil, List.length_cons, List.length_nil, List.cons_append, List.nil_append, List.append_nil, List.getElem?_cons_zero, List.getElem?_cons_succ, List.set_cons_zero, List.set_cons_succ, ofString_inj, ofString_beq, Pc.d, l0, l1, isD, tyD, at0, s3, isNon, len_mwp, sizeLine_eq, drop1, zip_mwp, gdTup, gsCons, gsNil, gdName, e1, e2, ih, hu]
    · have k0 : ¬ (u : Int) = 0 := by omega
      by_cases h3 : 300 < 1 + u
      · have k3 : (300 : Int) < 1 + (u : Int) := by omega
        simp [bodies, b_knots_if_t1, b_knots_if_t2, b_knots_if_t3, b_knots_if_t4, b_knots_if_t5, zEv, List.map_cons, List.map_nil, List.length_cons, List.length_nil, List.cons_append, List.nil_append, List.append_nil, List.getElem?_cons_zero, List.getElem?_cons_succ, List.set_cons_zero, List.set_cons_succ, ofString_inj, ofString_beq, Pc.d, l0, l1, isD, tyD, at0, s3, isNon, len_mwp, sizeLine_eq, drop1, zip_mwp, gdTup, gsCons, gsNil, gdName, e1, e2, ih, hu, k0, h3, k3]
      · have k3 : ¬ (300 : Int) < 1 + (u : Int) := by omega
        simp [bodies, b_knots_if_t1, b_knots_if_t2, b_knots_if_t3, b_knots_if_t4, b_knots_if_t5, zEv, List.map_cons, List.map_nil, List.length_cons, List.length_nil, List.cons_append, List.nil_append, List.append_nil, List.getElem?_cons_zero, List.getElem?_cons_succ, List.set_cons_zero, List.set_cons_succ, ofString_inj, ofString_beq, Pc.d, l0, l1, isD, tyD, at0, s3, isNon, len_mwp, sizeLine_eq, drop1, zip_mwp, gdTup, gsCons, gsNil, gdName, e1, e2, ih, hu, k0, h3, k3]
  | .take a x b, sc, k + 1, left + 1, S, hw, hk => by
    rw [Fk_s]
    obtain ⟨s1, s2, s3, s4, s5, s6, s7, s8⟩ := shape_D (k := k) (by omega) S
    have e1 := leaf_m (k := k) (by omega) a hw.1 S
    have e2 := leaf_w (k := k) (by omega) x hw.2.1 S
    have ih := knots_K b _ k left S hw.2.2 (by omega)
    have kp := kn_pos b
    have l0 : ¬ ((left : Int) + 1 = 0) := by omega
    have l1 : ((left : Int) + 1) - 1 = (left : Int) := by omega
    have h0 : kf (.take a x b) (left + 1) = if kf b left = 0 then 0 else if 300 < 1 + kf b left then 0 else 1 + kf b left := kf1 (by simp only [cd]) (by simp only [kn])
    rw [h0]
    generalize kf b left = u at ih
    by_cases hu : u = 0
    · simp [bodies, b_knots_if_t1, b_knots_if_t2, b_knots_if_t3, b_knots_if_t4, b_knots_if_t5, zEv, List.map_cons, List.map_nil, List.length_cons, List.length_nil, List.cons_append, List.nil_append, List.append_nil, List.getElem?_cons_zero, List.getElem?_cons_succ, List.set_cons_zero, List.set_cons_succ, ofString_inj, ofString_beq, Pc.d, l0, l1, isD, tyD, at0, s4, isNon, len_mwp, sizeLine_eq, drop1, zip_mwp, gdTup, gsCons, gsNil, gdName, e1, e2, ih, hu]
    · have k0 : ¬ (u : Int) = 0 := by omega
      by_cases h3 : 300 < 1 + u
      · have k3 : (300 : Int) < 1 + (u : Int) := by omega
        simp [bodies, b_knots_if_t1, b_knots_if_t2, b_knots_if_t3, b_knots_if_t4, b_knots_if_t5, zEv, List.map_cons, List.map_nil, List.length_cons, List.length_nil, List.cons_append, List.nil_append, List.append_nil, List.getElem?_cons_zero, List.getElem?_cons_succ, List.set_cons_zero, List.set_cons_succ, ofString_inj, ofString_beq, Pc.d, l0, l1, isD, tyD, at0, s4, isNon, len_mwp, sizeLine_eq, drop1, zip_mwp, gdTup, gsCons, gsNil, gdName, e1, e2, ih, hu, k0, h3, k3]
      · have k3 : ¬ (300 : Int) < 1 + (u : Int) := by omega
        simp [bodies, b_knots_if_t1, b_knots_if_t2, b_knots_if_t3, b_knots_if_t4, b_knots_if_t5, zEv, List.map_cons, List.map_nil, List.length_cons, List.length_nil, List.cons_append, List.nil_append, List.append_nil, List.getElem?_cons_zero, List.getElem?_cons_succ, List.set_cons_zero, List.set_cons_succ, ofString_inj, ofString_beq, Pc.d, l0, l1, isD, tyD, at0, s4, isNon, len_mwp, sizeLine_eq, drop1, zip_mwp, gdTup, gsCons, gsNil, gdName, e1, e2, ih, hu, k0, h3, k3]
  | .rnd b, sc, k + 1, left + 1, S, hw, hk => by
    rw [Fk_s]
    obtain ⟨s1, s2, s3, s4, s5, s6, s7, s8⟩ := shape_D (k := k) (by omega) S
    have hw : wf b sc := hw
    have ih := knots_K b _ k left S hw (by omega)
    have kp := kn_pos b
    have l0 : ¬ ((left : Int) + 1 = 0) := by omega
    have l1 : ((left : Int) + 1) - 1 = (left : Int) := by omega
    have h0 : kf (.rnd b) (left + 1) = if kf b left = 0 then 0 else if 300 < 1 + kf b left then 0 else 1 + kf b left := kf1 (by simp only [cd]) (by simp only [kn])
    rw [h0]
    generalize kf b left = u at ih
    by_cases hu : u = 0
    · simp [bodies, b_knots_if_t1, b_knots_if_t2, b_knots_if_t3, b_knots_if_t4, b_knots_if_t5, zEv, List.map_cons, List.map_nil, List.length_cons, List.length_nil, List.cons_append, List.nil_append, List.append_nil, List.getElem?_cons_zero, List.getElem?_cons_succ, List.set_cons_zero, List.set_cons_succ, ofString_inj, ofString_beq, Pc.d, l0, l1, isD, tyD, at0, s8, isNon, len_p, sizeLine_eq, drop1, zip_p, gdTup, gsCons, gsNil, gdName, ih, hu]
    · have k0 : ¬ (u : Int) = 0 := by omega
      by_cases h3 : 300 < 1 + u
      · have k3 : (300 : Int) < 1 + (u : Int) := by omega
        simp [bodies, b_knots_if_t1, b_knots_if_t2, b_knots_if_t3, b_knots_if_t4, b_knots_if_t5, zEv, List.map_cons, List.map_nil, List.length_cons, List.length_nil, List.cons_append, List.nil_append, List.append_nil, List.getElem?_cons_zero, List.getElem?_cons_succ, List.set_cons_zero, List.set_cons_succ, ofString_inj, ofString_beq, Pc.d, l0, l1, isD, tyD, at0, s8, isNon, len_p, sizeLine_eq, drop1, zip_p, gdTup, gsCons, gsNil, gdName, ih, hu, k0, h3, k3]
      · have k3 : ¬ (300 : Int) < 1 + (u : Int) := by omega
        simp [bodies, b_knots_if_t1, b_knots_if_t2, b_knots_if_t3, b_knots_if_t4, b_knots_if_t5, zEv, List.map_cons, List.map_nil, List.length_cons, List.length_nil, List.cons_append, List.nil_append, List.append_nil, List.getElem?_cons_zero, List.getElem?_cons_succ, List.set_cons_zero, List.set_cons_succ, ofString_inj, ofString_beq, Pc.d, l0, l1, isD, tyD, at0, s8, isNon, len_p, sizeLine_eq, drop1, zip_p, gdTup, gsCons, gsNil, gdName, ih, hu, k0, h3, k3]
  | .call a f g, sc, k + 1, left + 1, S, hw, hk => by
    rw [Fk_s]
    obtain ⟨s1, s2, s3, s4, s5, s6, s7, s8⟩ := shape_D (k := k) (by omega) S
    have e1 := leaf_m (k := k) (by omega) a hw.1 S
    have i1 := knots_K f _ k left S hw.2.1 (by omega)
    have i2 := knots_K g _ k left S hw.2.2 (by omega)
    have kpf := kn_pos f
    have kpg := kn_pos g
    have l0 : ¬ ((left : Int) + 1 = 0) := by omega
    have l1 : ((left : Int) + 1) - 1 = (left : Int) := by omega
    have h0 : kf (.call a f g) (left + 1) = if kf f left = 0 then 0 else if 300 < 1 + kf f left then 0 else if kf g left = 0 then 0 else if 300 < 1 + kf f left + kf g left then 0 else 1 + kf f left + kf g left := kf2 (by simp only [cd]) (by simp only [kn])
    rw [h0]
    generalize kf f left = u at i1
    generalize kf g left = v at i2
    by_cases hu : u = 0
    · simp [bodies, b_knots_if_t1, b_knots_if_t2, b_knots_if_t3, b_knots_if_t4, b_knots_if_t5, zEv, List.map_cons, List.map_nil, List.length_cons, List.length_nil, List.cons_append, List.nil_append, List.append_nil, List.getElem?_cons_zero, List.getElem?_cons_succ, List.set_cons_zero, List.set_cons_succ, ofString_inj, ofString_beq, Pc.d, l0, l1, isD, tyD, at0, s5, isNon, len_mpp, sizeLine_eq, drop1, zip_mpp, gdTup, gsCons, gsNil, gdName, e1, i1, i2, hu]
    have k0 : ¬ (u : Int) = 0 := by omega
    by_cases h3 : 300 < 1 + u
    · have k3 : (300 : Int) < 1 + (u : Int) := by omega
      simp [bodies, b_knots_if_t1, b_knots_if_t2, b_knots_if_t3, b_knots_if_t4, b_knots_if_t5, zEv, List.map_cons, List.map_nil, List.length_cons, List.length_nil, List.cons_append, List.nil_append, List.append_nil, List.getElem?_cons_zero, List.getElem?_cons_succ, List.set_cons_zero, List.set_cons_succ, ofString_inj, ofString_beq, Pc.d, l0, l1, isD, tyD, at0, s5, isNon, len_mpp, sizeLine_eq, drop1, zip_mpp, gdTup, gsCons, gsNil, gdName, e1, i1, i2, hu, k0, h3, k3]
    have k3 : ¬ (300 : Int) < 1 + (u : Int) := by omega
    by_cases hv : v = 0
    · simp [bodies, b_knots_if_t1, b_knots_if_t2, b_knots_if_t3, b_knots_if_t4, b_knots_if_t5, zEv, List.map_cons, List.map_nil, List.length_cons, List.length_nil, List.cons_append, List.nil_append, List.append_nil, List.getElem?_cons_zero, List.getElem?_cons_succ, List.set_cons_zero, List.set_cons_succ, ofString_inj, ofString_beq, Pc.d, l0, l1, isD, tyD, at0, s5, isNon, len_mpp, sizeLine_eq, drop1, zip_mpp, gdTup, gsCons, gsNil, gdName, e1, i1, i2, hu, k0, h3, k3, hv]
    have k4 : ¬ (v : Int) = 0 := by omega
    by_cases h5 : 300 < 1 + u + v
    · have k5 : (300 : Int) < 1 + (u : Int) + (v : Int) := by omega
      simp [bodies, b_knots_if_t1, b_knots_if_t2, b_knots_if_t3, b_knots_if_t4, b_knots_if_t5, zEv, List.map_cons, List.map_nil, List.length_cons, List.length_nil, List.cons_append, List.nil_append, List.append_nil, List.getElem?_cons_zero, List.getElem?_cons_succ, List.set_cons_zero, List.set_cons_succ, ofString_inj, ofString_beq, Pc.d, l0, l1, isD, tyD, at0, s5, isNon, len_mpp, sizeLine_eq, drop1, zip_mpp, gdTup, gsCons, gsNil, gdName, e1, i1, i2, hu, k0, h3, k3, hv, k4, h5, k5]
    · have k5 : ¬ (300 : Int) < 1 + (u : Int) + (v : Int) := by omega
      simp [bodies, b_knots_if_t1, b_knots_if_t2, b_knots_if_t3, b_knots_if_t4, b_knots_if_t5, zEv, List.map_cons, List.map_nil, List.length_cons, List.length_nil, List.cons_append, List.nil_append, List.append_nil, List.getElem?_cons_zero, List.getElem?_cons_succ, List.set_cons_zero, List.set_cons_succ, ofString_inj, ofString_beq, Pc.d, l0, l1, isD, tyD, at0, s5, isNon, len_mpp, sizeLine_eq, drop1, zip_mpp, gdTup, gsCons, gsNil, gdName, e1, i1, i2, hu, k0, h3, k3, hv, k4, h5, k5]
  | .plus a f g, sc, k + 1, left + 1, S, hw, hk => by
    rw [Fk_s]
    obtain ⟨s1, s2, s3, s4, s5, s6, s7, s8⟩ := shape_D (k := k) (by omega) S
    have e1 := leaf_m (k := k) (by omega) a hw.1 S
    have i1 := knots_K f _ k left S hw.2.1 (by omega)
    have i2 := knots_K g _ k left S hw.2.2 (by omega)
    have kpf := kn_pos f
    have kpg := kn_pos g
    have l0 : ¬ ((left : Int) + 1 = 0) := by omega
    have l1 : ((left : Int) + 1) - 1 = (left : Int) := by omega
    have h0 : kf (.plus a f g) (left + 1) = if kf f left = 0 then 0 else if 300 < 1 + kf f left then 0 else if kf g left = 0 then 0 else if 300 < 1 + kf f left + kf g left then 0 else 1 + kf f left + kf g left := kf2 (by simp only [cd]) (by simp only [kn])
    rw [h0]
    generalize kf f left = u at i1
    generalize kf g left = v at i2
    by_cases hu : u = 0
    · simp [bodies, b_knots_if_t1, b_knots_if_t2, b_knots_if_t3, b_knots_if_t4, b_knots_if_t5, zEv, List.map_cons, List.map_nil, List.length_cons, List.length_nil, List.cons_append, List.nil_append, List.append_nil, List.getElem?_cons_zero, List.getElem?_cons_succ, List.set_cons_zero, List.set_cons_succ, ofString_inj, ofString_beq, Pc.d, l0, l1, isD, tyD, at0, s6, isNon, len_mpp, sizeLine_eq, drop1, zip_mpp, gdTup, gsCons, gsNil, gdName, e1, i1, i2, hu]
    have k0 : ¬ (u : Int) = 0 := by omega
    by_cases h3 : 300 < 1 + u
    · have k3 : (300 : Int) < 1 + (u : Int) := by omega
      simp [bodies, b_knots_if_t1, b_knots_if_t2, b_knots_if_t3, b_knots_if_t4, b_knots_if_t5, zEv, List.map_cons, List.map_nil, List.length_cons, List.length_nil, List.cons_append, List.nil_append, List.append_nil, List.getElem?_cons_zero, List.getElem?_cons_succ, List.set_cons_zero, List.set_cons_succ, ofString_inj, ofString_beq, Pc.d, l0, l1, isD, tyD, at0, s6, isNon, len_mpp, sizeLine_eq, drop1, zip_mpp, gdTup, gsCons, gsNil, gdName, e1, i1, i2, hu, k0, h3, k3]
    have k3 : ¬ (300 : Int) < 1 + (u : Int) := by omega
    by_cases hv : v = 0
    · simp [bodies, b_knots_if_t1, b_knots_if_t2, b_knots_if_t3, b_knots_if_t4, b_knots_if_t5, zEv, List.map_cons, List.map_nil, List.length_cons, List.length_nil, List.cons_append, List.nil_append, List.append_nil, List.getElem?_cons_zero, List.getElem?_cons_succ, List.set_cons_zero, List.set_cons_succ, ofString_inj, ofString_beq, Pc.d, l0, l1, isD, tyD, at0, s6, isNon, len_mpp, sizeLine_eq, drop1, zip_mpp, gdTup, gsCons, gsNil, gdName, e1, i1, i2, hu, k0, h3, k3, hv]
    have k4 : ¬ (v : Int) = 0 := by omega
    by_cases h5 : 300 < 1 + u + v
    · have k5 : (300 : Int) < 1 + (u : Int) + (v : Int) := by omega
      simp [bodies, b_knots_if_t1, b_knots_if_t2, b_knots_if_t3, b_knots_if_t4, b_knots_if_t5, zEv, List.map_cons, List.map_nil, List.length_cons, List.length_nil, List.cons_append, List.nil_append, List.append_nil, List.getElem?_cons_zero, List.getElem?_cons_succ, List.set_cons_zero, List.set_cons_succ, ofString_inj, ofString_beq, Pc.d, l0, l1, isD, tyD, at0, s6, isNon, len_mpp, sizeLine_eq, drop1, zip_mpp, gdTup, gsCons, gsNil, gdName, e1, i1, i2, hu, k0, h3, k3, hv, k4, h5, k5]
    · have k5 : ¬ (300 : Int) < 1 + (u : Int) + (v : Int) := by omega
      simp [bodies, b_knots_if_t1, b_knots_if_t2, b_knots_if_t3, b_knots_if_t4, b_knots_if_t5, zEv, List.map_cons, List.map_nil, List.length_cons, List.length_nil, List.cons_append, List.nil_append, List.append_nil, List.getElem?_cons_zero, List.getElem?_cons_succ, List.set_cons_zero, List.set_cons_succ, ofString_inj, ofString_beq, Pc.d, l0, l1, isD, tyD, at0, s6, isNon, len_mpp, sizeLine_eq, drop1, zip_mpp, gdTup, gsCons, gsNil, gdName, e1, i1, i2, hu, k0, h3, k3, hv, k4, h5, k5]
  | .pick a c f g, sc, k + 1, left + 1, S, hw, hk => by
    rw [Fk_s]
    obtain ⟨s1, s2, s3, s4, s5, s6, s7, s8⟩ := shape_D (k := k) (by omega) S
    have e1 := leaf_m (k := k) (by omega) a hw.1 S
    have i0 := knots_K c _ k left S hw.2.1 (by omega)
    have i1 := knots_K f _ k left S hw.2.2.1 (by omega)
    have i2 := knots_K g _ k left S hw.2.2.2 (by omega)
    have kpc := kn_pos c
    have kpf := kn_pos f
    have kpg := kn_pos g
    have l0 : ¬ ((left : Int) + 1 = 0) := by omega
    have l1 : ((left : Int) + 1) - 1 = (left : Int) := by omega
    have h0 : kf (.pick a c f g) (left + 1) = if kf c left = 0 then 0 else if 300 < 1 + kf c left then 0 else if kf f left = 0 then 0 else if 300 < 1 + kf c left + kf f left then 0 else if kf g left = 0 then 0 else if 300 < 1 + kf c left + kf f left + kf g left then 0 else 1 + kf c left + kf f left + kf g left := kf3 (by simp only [cd]) (by simp only [kn])
    rw [h0]
    generalize kf c left = t at i0
    generalize kf f left = u at i1
    generalize kf g left = v at i2
    by_cases ht : t = 0
    · simp [bodies, b_knots_if_t1, b_knots_if_t2, b_knots_if_t3, b_knots_if_t4, b_knots_if_t5, zEv, List.map_cons, List.map_nil, List.length_cons, List.length_nil, List.cons_append, List.nil_append, List.append_nil, List.getElem?_cons_zero, List.getElem?_cons_succ, List.set_cons_zero, List.set_cons_succ, ofString_inj, ofString_beq, Pc.d, l0, l1, isD, tyD, at0, s7, isNon, len_mppp, sizeLine_eq, drop1, zip_mppp, gdTup, gsCons, gsNil, gdName, e1, i0, i1, i2, ht]
    have j0 : ¬ (t : Int) = 0 := by omega
    by_cases h1 : 300 < 1 + t
    · have j1 : (300 : Int) < 1 + (t : Int) := by omega
      simp [bodies, b_knots_if_t1, b_knots_if_t2, b_knots_if_t3, b_knots_if_t4, b_knots_if_t5, zEv, List.map_cons, List.map_nil, List.length_cons, List.length_nil, List.cons_append, List.nil_append, List.append_nil, List.getElem?_cons_zero, List.getElem?_cons_succ, List.set_cons_zero, List.set_cons_succ, ofString_inj, ofString_beq, Pc.d, l0, l1, isD, tyD, at0, s7, isNon, len_mppp, sizeLine_eq, drop1, zip_mppp, gdTup, gsCons, gsNil, gdName, e1, i0, i1, i2, ht, j0, h1, j1]
    have j1 : ¬ (300 : Int) < 1 + (t : Int) := by omega
    by_cases hu : u = 0
    · simp [bodies, b_knots_if_t1, b_knots_if_t2, b_knots_if_t3, b_knots_if_t4, b_knots_if_t5, zEv, List.map_cons, List.map_nil, List.length_cons, List.length_nil, List.cons_append, List.nil_append, List.append_nil, List.getElem?_cons_zero, List.getElem?_cons_succ, List.set_cons_zero, List.set_cons_succ, ofString_inj, ofString_beq, Pc.d, l0, l1, isD, tyD, at0, s7, isNon, len_mppp, sizeLine_eq, drop1, zip_mppp, gdTup, gsCons, gsNil, gdName, e1, i0, i1, i2, ht, j0, h1, j1, hu]
    have k0 : ¬ (u : Int) = 0 := by omega
    by_cases h3 : 300 < 1 + t + u
    · have k3 : (300 : Int) < 1 + (t : Int) + (u : Int) := by omega
      simp [bodies, b_knots_if_t1, b_knots_if_t2, b_knots_if_t3, b_knots_if_t4, b_knots_if_t5, zEv, List.map_cons, List.map_nil, List.length_cons, List.length_nil, List.cons_append, List.nil_append, List.append_nil, List.getElem?_cons_zero, List.getElem?_cons_succ, List.set_cons_zero, List.set_cons_succ, ofString_inj, ofString_beq, Pc.d, l0, l1, isD, tyD, at0, s7, isNon, len_mppp, sizeLine_eq, drop1, zip_mppp, gdTup, gsCons, gsNil, gdName, e1, i0, i1, i2, ht, j0, h1, j1, hu, k0, h3, k3]
    have k3 : ¬ (300 : Int) < 1 + (t : Int) + (u : Int) := by omega
    by_cases hv : v = 0
    · simp [bodies, b_knots_if_t1, b_knots_if_t2, b_knots_if_t3, b_knots_if_t4, b_knots_if_t5, zEv, List.map_cons, List.map_nil, List.length_cons, List.length_nil, List.cons_append, List.nil_append, List.append_nil, List.getElem?_cons_zero, List.getElem?_cons_succ, List.set_cons_zero, List.set_cons_succ, ofString_inj, ofString_beq, Pc.d, l0, l1, isD, tyD, at0, s7, isNon, len_mppp, sizeLine_eq, drop1, zip_mppp, gdTup, gsCons, gsNil, gdName, e1, i0, i1, i2, ht, j0, h1, j1, hu, k0, h3, k3, hv]
    have k4 : ¬ (v : Int) = 0 := by omega
    by_cases h5 : 300 < 1 + t + u + v
    · have k5 : (300 : Int) < 1 + (t : Int) + (u : Int) + (v : Int) := by omega
      simp [bodies, b_knots_if_t1, b_knots_if_t2, b_knots_if_t3, b_knots_if_t4, b_knots_if_t5, zEv, List.map_cons, List.map_nil, List.length_cons, List.length_nil, List.cons_append, List.nil_append, List.append_nil, List.getElem?_cons_zero, List.getElem?_cons_succ, List.set_cons_zero, List.set_cons_succ, ofString_inj, ofString_beq, Pc.d, l0, l1, isD, tyD, at0, s7, isNon, len_mppp, sizeLine_eq, drop1, zip_mppp, gdTup, gsCons, gsNil, gdName, e1, i0, i1, i2, ht, j0, h1, j1, hu, k0, h3, k3, hv, k4, h5, k5]
    · have k5 : ¬ (300 : Int) < 1 + (t : Int) + (u : Int) + (v : Int) := by omega
      simp [bodies, b_knots_if_t1, b_knots_if_t2, b_knots_if_t3, b_knots_if_t4, b_knots_if_t5, zEv, List.map_cons, List.map_nil, List.length_cons, List.length_nil, List.cons_append, List.nil_append, List.append_nil, List.getElem?_cons_zero, List.getElem?_cons_succ, List.set_cons_zero, List.set_cons_succ, ofString_inj, ofString_beq, Pc.d, l0, l1, isD, tyD, at0, s7, isNon, len_mppp, sizeLine_eq, drop1, zip_mppp, gdTup, gsCons, gsNil, gdName, e1, i0, i1, i2, ht, j0, h1, j1, hu, k0, h3, k3, hv, k4, h5, k5]
  | .shut .., _, _, _, _, h, _ => h.elim
  | .kept .., _, _, _, _, h, _ => h.elim
/-! ## what is wrong -/
/-- has no knots, at any depth -/
def KZ (d : D) : Prop := ∀ (left k : Nat), left + 5 ≤ k → ∀ S, Fk k .knots_if [d, .int (left : Nat)] S = some (.int 0, S)
theorem kz_0 {d : D} {k : Nat} (hk : 1 ≤ k) (S : List O) : Fk k .knots_if [d, .int 0] S = some (.int 0, S) := by
  obtain ⟨k, rfl⟩ := lev hk
  rw [Fk_s]
  simp [bodies, b_knots_if_t1, b_knots_if_t2, b_knots_if_t3, b_knots_if_t4, b_knots_if_t5, zEv, List.map_cons, List.map_nil, List.length_cons, List.length_nil, List.cons_append, List.nil_append, List.append_nil, List.getElem?_cons_zero, List.getElem?_cons_succ, List.set_cons_zero, List.set_cons_succ, ofString_inj, ofString_beq]
theorem kz_of {d : D} (h : ∀ (left k : Nat), left + 5 ≤ k → ∀ S, Fk (k + 1) .knots_if [d, .int ((left + 1 : Nat) : Int)] S = some (.int 0, S)) : KZ d
  | 0, k, hk, S => kz_0 (by omega) S
  | left + 1, k, hk, S => by
    obtain ⟨k, rfl⟩ : ∃ j, k = j + 1 := ⟨k - 1, by omega⟩
    exact h left k (by omega) S
theorem l1ne (left : Nat) : ¬ ((left : Int) + 1 = 0) := by omega
theorem l1sub (left : Nat) : ((left : Int) + 1) - 1 = (left : Int) := by omega
theorem kz_flat {d : D} (h : ∀ S, isD "tuple" S d = some false) : KZ d := kz_of fun left k hk S => by
  rw [Fk_s]
  have e := h S
  have l0 := l1ne left
  simp [bodies, b_knots_if_t1, b_knots_if_t2, b_knots_if_t3, b_knots_if_t4, b_knots_if_t5, zEv, List.map_cons, List.map_nil, List.length_cons, List.length_nil, List.cons_append, List.nil_append, List.append_nil, List.getElem?_cons_zero, List.getElem?_cons_succ, List.set_cons_zero, List.set_cons_succ, ofString_inj, ofString_beq, e, l0]
theorem kz_non : KZ .non := kz_flat fun S => by simp [isD, tyD]
theorem kz_int (i : Int) : KZ (.int i) := kz_flat fun S => by simp [isD, tyD]
theorem kz_bl (i : Bool) : KZ (.bl i) := kz_flat fun S => by simp [isD, tyD]
theorem kz_str (x : Str) : KZ (.str x) := kz_flat fun S => by simp [isD, tyD]
theorem kz_lst (x : List D) : KZ (.lst x) := kz_flat fun S => by simp [isD, tyD]
theorem kz_nil : KZ (.tup []) := kz_of fun left k hk S => by
  rw [Fk_s]
  have l0 := l1ne left
  simp [bodies, b_knots_if_t1, b_knots_if_t2, b_knots_if_t3, b_knots_if_t4, b_knots_if_t5, zEv, List.map_cons, List.map_nil, List.length_cons, List.length_nil, List.cons_append, List.nil_append, List.append_nil, List.getElem?_cons_zero, List.getElem?_cons_succ, List.set_cons_zero, List.set_cons_succ, ofString_inj, ofString_beq, isD, tyD, l0]
theorem isT_tup (S : List O) (xs : List D) : isD "tuple" S (.tup xs) = some true := by simp [isD, tyD]
theorem kz_head {x : D} {r : List D} (hl : r.length < 1000) (h : ∀ S, isD "str" S x = some false) : KZ (.tup (x :: r)) := kz_of fun left k hk S => by
  rw [Fk_s]
  have e := h S
  have l0 := l1ne left
  have hl : ¬ ((r.length : Int) + 1 = 0) := by omega
  simp [bodies, b_knots_if_t1, b_knots_if_t2, b_knots_if_t3, b_knots_if_t4, b_knots_if_t5, zEv, List.map_cons, List.map_nil, List.length_cons, List.length_nil, List.cons_append, List.nil_append, List.append_nil, List.getElem?_cons_zero, List.getElem?_cons_succ, List.set_cons_zero, List.set_cons_succ, ofString_inj, ofString_beq, isT_tup, l0, at0, hl, e]
/-- no such word -/
def NoW (w : Str) : Prop := ∀ k, 1 ≤ k → ∀ S, Fk k .shape_of [.str w] S = some (.non, S)
theorem kz_word {w : Str} {r : List D} (hl : r.length < 1000) (h : NoW w) : KZ (.tup (.str w :: r)) := kz_of fun left k hk S => by
  rw [Fk_s]
  have e := h k (by omega) S
  have l0 := l1ne left
  have hl : ¬ ((r.length : Int) + 1 = 0) := by omega
  simp [bodies, b_knots_if_t1, b_knots_if_t2, b_knots_if_t3, b_knots_if_t4, b_knots_if_t5, zEv, List.map_cons, List.map_nil, List.length_cons, List.length_nil, List.cons_append, List.nil_append, List.append_nil, List.getElem?_cons_zero, List.getElem?_cons_succ, List.set_cons_zero, List.set_cons_succ, ofString_inj, ofString_beq, isD, tyD, l0, at0, hl, e, isNon]
theorem noW {w : Str} (h : w ≠ "num" ∧ w ≠ "name" ∧ w ≠ "fun" ∧ w ≠ "take" ∧ w ≠ "call" ∧ w ≠ "plus" ∧ w ≠ "pick" ∧ w ≠ "round") : NoW w := fun k hk S => by
  obtain ⟨k, rfl⟩ := lev hk
  obtain ⟨h1, h2, h3, h4, h5, h6, h7, h8⟩ := h
  rw [Fk_s]
  simp [bodies, zEv, List.map_cons, List.map_nil, List.length_cons, List.length_nil, List.cons_append, List.nil_append, List.append_nil, List.getElem?_cons_zero, List.getElem?_cons_succ, List.set_cons_zero, List.set_cons_succ, ofString_inj, ofString_beq, h1, h2, h3, h4, h5, h6, h7, h8]
theorem kz_len {w sh : Str} {r : List D} (hw : ∀ k, 1 ≤ k → ∀ S, Fk k .shape_of [.str w] S = some (.str sh, S)) (hl : r.length < 1000) (hs : sh.length < 1000) (h : r.length ≠ sh.length) : KZ (.tup (.str w :: r)) := kz_of fun left k hk S => by
  rw [Fk_s]
  have e := hw k (by omega) S
  have l0 := l1ne left
  have hl : ¬ ((r.length : Int) + 1 = 0) := by omega
  have hl2 : ¬ ((r.length : Int) = (sh.length : Int)) := by omega
  have hl3 : sh.length ≤ 16777216 := by omega
  simp [bodies, b_knots_if_t1, b_knots_if_t2, b_knots_if_t3, b_knots_if_t4, b_knots_if_t5, zEv, List.map_cons, List.map_nil, List.length_cons, List.length_nil, List.cons_append, List.nil_append, List.append_nil, List.getElem?_cons_zero, List.getElem?_cons_succ, List.set_cons_zero, List.set_cons_succ, ofString_inj, ofString_beq, isD, tyD, l0, at0, hl, e, isNon, sizeLine_eq, hl2, hl3]
/-- a leaf that is none -/
def LN (sg : Str) (d : D) : Prop := ∀ k, 3 ≤ k → ∀ S, Fk k .is_leaf_part [.str sg, d] S = some (.bl false, S)
theorem whole_f {k : Nat} (hk : 1 ≤ k) {d : D} (S : List O) (h : d = .bl true ∨ (∃ x, d = .str x) ∨ d = .non) : Fk k .is_whole [d] S = some (.bl false, S) := by
  obtain ⟨k, rfl⟩ := lev hk
  rw [Fk_s]
  rcases h with rfl | ⟨x, rfl⟩ | rfl <;> simp [bodies, zEv, List.map_cons, List.map_nil, List.length_cons, List.length_nil, List.cons_append, List.nil_append, List.append_nil, List.getElem?_cons_zero, List.getElem?_cons_succ, List.set_cons_zero, List.set_cons_succ, ofString_inj, ofString_beq, isD, tyD]
theorem ln_whole {sg : Str} (hs : sg = "n" ∨ sg = "m") {d : D} (h : d = .bl true ∨ (∃ x, d = .str x) ∨ d = .non) : LN sg d := fun k hk S => by
  obtain ⟨k, rfl⟩ : ∃ j, k = j + 3 := ⟨k - 3, by omega⟩
  have e := whole_f (k := k + 1) (by omega) S h
  have e1 : Fk (k + 2) .is_number [d] S = some (.bl false, S) := by rw [show k + 2 = (k + 1) + 1 from rfl, Fk_s]; simp [bodies, zEv, List.map_cons, List.map_nil, List.length_cons, List.length_nil, List.cons_append, List.nil_append, List.append_nil, List.getElem?_cons_zero, List.getElem?_cons_succ, List.set_cons_zero, List.set_cons_succ, ofString_inj, ofString_beq, e]
  have e2 : Fk (k + 2) .is_mark [d] S = some (.bl false, S) := by rw [show k + 2 = (k + 1) + 1 from rfl, Fk_s]; simp [bodies, zEv, List.map_cons, List.map_nil, List.length_cons, List.length_nil, List.cons_append, List.nil_append, List.append_nil, List.getElem?_cons_zero, List.getElem?_cons_succ, List.set_cons_zero, List.set_cons_succ, ofString_inj, ofString_beq, e]
  rw [show k + 3 = (k + 2) + 1 from rfl, Fk_s]
  rcases hs with rfl | rfl <;> simp [bodies, zEv, List.map_cons, List.map_nil, List.length_cons, List.length_nil, List.cons_append, List.nil_append, List.append_nil, List.getElem?_cons_zero, List.getElem?_cons_succ, List.set_cons_zero, List.set_cons_succ, ofString_inj, ofString_beq, e1, e2]
theorem ln_num {i : Int} (h : ¬ (-1000000000000 < i ∧ i < 1000000000000)) : LN "n" (.int i) := fun k hk S => by
  obtain ⟨k, rfl⟩ : ∃ j, k = j + 3 := ⟨k - 3, by omega⟩
  have e := is_whole_D (k := k + 1) (by omega) i S
  have e1 : Fk (k + 2) .is_number [.int i] S = some (.bl false, S) := by
    rw [show k + 2 = (k + 1) + 1 from rfl, Fk_s]
    by_cases h1 : -1000000000000 < i
    · have h2 : ¬ i < 1000000000000 := fun q => h ⟨h1, q⟩
      simp [bodies, zEv, List.map_cons, List.map_nil, List.length_cons, List.length_nil, List.cons_append, List.nil_append, List.append_nil, List.getElem?_cons_zero, List.getElem?_cons_succ, List.set_cons_zero, List.set_cons_succ, ofString_inj, ofString_beq, e, h1, h2]
    · simp [bodies, zEv, List.map_cons, List.map_nil, List.length_cons, List.length_nil, List.cons_append, List.nil_append, List.append_nil, List.getElem?_cons_zero, List.getElem?_cons_succ, List.set_cons_zero, List.set_cons_succ, ofString_inj, ofString_beq, e, h1]
  rw [show k + 3 = (k + 2) + 1 from rfl, Fk_s]
  simp [bodies, zEv, List.map_cons, List.map_nil, List.length_cons, List.length_nil, List.cons_append, List.nil_append, List.append_nil, List.getElem?_cons_zero, List.getElem?_cons_succ, List.set_cons_zero, List.set_cons_succ, ofString_inj, ofString_beq, e1]
theorem ln_mark {i : Int} (h : ¬ (0 ≤ i ∧ i ≤ 9999)) : LN "m" (.int i) := fun k hk S => by
  obtain ⟨k, rfl⟩ : ∃ j, k = j + 3 := ⟨k - 3, by omega⟩
  have e := is_whole_D (k := k + 1) (by omega) i S
  have e1 : Fk (k + 2) .is_mark [.int i] S = some (.bl false, S) := by
    rw [show k + 2 = (k + 1) + 1 from rfl, Fk_s]
    by_cases h1 : 0 ≤ i
    · have h2 : ¬ i ≤ 9999 := fun q => h ⟨h1, q⟩
      simp [bodies, zEv, List.map_cons, List.map_nil, List.length_cons, List.length_nil, List.cons_append, List.nil_append, List.append_nil, List.getElem?_cons_zero, List.getElem?_cons_succ, List.set_cons_zero, List.set_cons_succ, ofString_inj, ofString_beq, e, h1, h2]
    · simp [bodies, zEv, List.map_cons, List.map_nil, List.length_cons, List.length_nil, List.cons_append, List.nil_append, List.append_nil, List.getElem?_cons_zero, List.getElem?_cons_succ, List.set_cons_zero, List.set_cons_succ, ofString_inj, ofString_beq, e, h1]
  rw [show k + 3 = (k + 2) + 1 from rfl, Fk_s]
  simp [bodies, zEv, List.map_cons, List.map_nil, List.length_cons, List.length_nil, List.cons_append, List.nil_append, List.append_nil, List.getElem?_cons_zero, List.getElem?_cons_succ, List.set_cons_zero, List.set_cons_succ, ofString_inj, ofString_beq, e1]
/-- a name that is none -/
def NN (d : D) : Prop := ∀ k, 1 ≤ k → ∀ S, Fk k .is_name [d] S = some (.bl false, S)
theorem ln_name {d : D} (h : NN d) : LN "w" d := fun k hk S => by
  obtain ⟨k, rfl⟩ : ∃ j, k = j + 1 := ⟨k - 1, by omega⟩
  have e := h k (by omega) S
  rw [Fk_s]
  simp [bodies, zEv, List.map_cons, List.map_nil, List.length_cons, List.length_nil, List.cons_append, List.nil_append, List.append_nil, List.getElem?_cons_zero, List.getElem?_cons_succ, List.set_cons_zero, List.set_cons_succ, ofString_inj, ofString_beq, e]
theorem nn_non : NN .non := fun k hk S => by
  obtain ⟨k, rfl⟩ := lev hk
  rw [Fk_s]; simp [bodies, zEv, List.map_cons, List.map_nil, List.length_cons, List.length_nil, List.cons_append, List.nil_append, List.append_nil, List.getElem?_cons_zero, List.getElem?_cons_succ, List.set_cons_zero, List.set_cons_succ, ofString_inj, ofString_beq, isD, tyD]
theorem nn_int (i : Int) : NN (.int i) := fun k hk S => by
  obtain ⟨k, rfl⟩ := lev hk
  rw [Fk_s]; simp [bodies, zEv, List.map_cons, List.map_nil, List.length_cons, List.length_nil, List.cons_append, List.nil_append, List.append_nil, List.getElem?_cons_zero, List.getElem?_cons_succ, List.set_cons_zero, List.set_cons_succ, ofString_inj, ofString_beq, isD, tyD]
theorem nn_len {x : Str} (h : x.length = 0 ∨ 8 < x.length) (hs : x.length < 1000) : NN (.str x) := fun k hk S => by
  obtain ⟨k, rfl⟩ := lev hk
  rw [Fk_s]
  have hl : x.length ≤ 16777216 := by omega
  rcases h with h | h
  · simp [bodies, zEv, List.map_cons, List.map_nil, List.length_cons, List.length_nil, List.cons_append, List.nil_append, List.append_nil, List.getElem?_cons_zero, List.getElem?_cons_succ, List.set_cons_zero, List.set_cons_succ, ofString_inj, ofString_beq, isD, tyD, sizeLine_eq, h]
  · have h1 : ¬ ((x.length : Int) ≤ 8) := by omega
    have h2 : ¬ (x.length ≤ 8) := by omega
    have h3 : (1 : Int) ≤ (x.length : Int) := by omega
    have h4 : 1 ≤ x.length := by omega
    simp [bodies, zEv, List.map_cons, List.map_nil, List.length_cons, List.length_nil, List.cons_append, List.nil_append, List.append_nil, List.getElem?_cons_zero, List.getElem?_cons_succ, List.set_cons_zero, List.set_cons_succ, ofString_inj, ofString_beq, isD, tyD, sizeLine_eq, hl, h1, h2, h3, h4]
theorem badname_loop (S : List O) (d0 : D) : ∀ (cs : List Nat) (z : Option D), (∃ c ∈ cs, ¬ (97 ≤ c ∧ c ≤ 122)) → (∀ c ∈ cs, c ≤ 200) → forD (gdName 1) (sIf (tOf (eOp dNotSign (eVar 1) (eC (.str "abcdefghijklmnopqrstuvwxyz")))) (sRet (eC (.bl false))) sNext) (cs.map fun c => D.str ⟨#[c]⟩) [some d0, z] S = some (.rt (.bl false) S)
  | [], z, h, _ => by obtain ⟨c, hc, _⟩ := h; simp at hc
  | c :: cs, z, h, hs => by
    rw [List.map_cons, forD_c, gdName_u, forK2_1]
    by_cases hc : 97 ≤ c ∧ c ≤ 122
    · have e : dNotSign (.str ⟨#[c]⟩) (.str "abcdefghijklmnopqrstuvwxyz") S = some (.bl false) := by
        obtain ⟨h1, h2⟩ := hc
        unfold dNotSign
        dsimp only
        rw [if_pos (show (#[c] : Array Nat).size = 1 from rfl), letters_eq]
        have : c ∈ (List.range 26).map (· + 97) := List.mem_map.mpr ⟨c - 97, List.mem_range.mpr (by omega), by omega⟩
        simp only [Array.getD, List.getD]
        simp [this]
      have ih := badname_loop S d0 cs (some (.str ⟨#[c]⟩)) (by
        obtain ⟨x, hx, q⟩ := h
        rcases List.mem_cons.mp hx with r | r
        · rw [r] at q; exact absurd hc q
        · exact ⟨x, r, q⟩) (fun x hx => hs x (List.mem_cons_of_mem _ hx))
      simp [zEv, List.map_cons, List.map_nil, List.length_cons, List.length_nil, List.cons_append, List.nil_append, List.append_nil, List.getElem?_cons_zero, List.getElem?_cons_succ, List.set_cons_zero, List.set_cons_succ, ofString_inj, ofString_beq, e, ih]
    · have e : dNotSign (.str ⟨#[c]⟩) (.str "abcdefghijklmnopqrstuvwxyz") S = some (.bl true) := by
        unfold dNotSign
        dsimp only
        rw [if_pos (show (#[c] : Array Nat).size = 1 from rfl), letters_eq]
        have : ¬ c ∈ (List.range 26).map (· + 97) := fun q => by
          obtain ⟨x, hx, e⟩ := List.mem_map.mp q
          have := List.mem_range.mp hx
          exact hc (by omega)
        simp only [Array.getD, List.getD]
        simp [this]
      simp [zEv, List.map_cons, List.map_nil, List.length_cons, List.length_nil, List.cons_append, List.nil_append, List.append_nil, List.getElem?_cons_zero, List.getElem?_cons_succ, List.set_cons_zero, List.set_cons_succ, ofString_inj, ofString_beq, e]
theorem nn_sign {x : Str} (h1 : 1 ≤ x.length) (h8 : x.length ≤ 8) (h : ∃ c ∈ x.cps.toList, ¬ (97 ≤ c ∧ c ≤ 122)) (hs : ∀ c ∈ x.cps.toList, c ≤ 200) : NN (.str x) := fun k hk S => by
  obtain ⟨k, rfl⟩ := lev hk
  rw [Fk_s]
  have lp := badname_loop S (.str x) x.cps.toList none h hs
  have b1 : x.length ≤ 16777216 := by omega
  have b2 : (1 : Int) ≤ (x.length : Int) := by omega
  have b3 : (x.length : Int) ≤ 8 := by omega
  simp [bodies, zEv, List.map_cons, List.map_nil, List.length_cons, List.length_nil, List.cons_append, List.nil_append, List.append_nil, List.getElem?_cons_zero, List.getElem?_cons_succ, List.set_cons_zero, List.set_cons_succ, ofString_inj, ofString_beq, isD, tyD, sizeLine_eq, b1, b2, b3, h1, h8, lp]
/-! ## one part wrong -/
theorem kz_num {d : D} (h : LN "n" d) : KZ (.tup [.str "num", d]) := kz_of fun left k hk S => by
  rw [Fk_s]
  obtain ⟨s1, s2, s3, s4, s5, s6, s7, s8⟩ := shape_D (k := k) (by omega) S
  have l0 := l1ne left
  have l1 := l1sub left
  have e := h k (by omega) S
  simp [bodies, b_knots_if_t1, b_knots_if_t2, b_knots_if_t3, b_knots_if_t4, b_knots_if_t5, zEv, List.map_cons, List.map_nil, List.length_cons, List.length_nil, List.cons_append, List.nil_append, List.append_nil, List.getElem?_cons_zero, List.getElem?_cons_succ, List.set_cons_zero, List.set_cons_succ, ofString_inj, ofString_beq, l0, l1, isD, tyD, at0, isNon, sizeLine_eq, drop1, gdTup, gsCons, gsNil, gdName, s1, len_n, zip_n, e]
theorem kz_name {d : D} (h : LN "w" d) : KZ (.tup [.str "name", d]) := kz_of fun left k hk S => by
  rw [Fk_s]
  obtain ⟨s1, s2, s3, s4, s5, s6, s7, s8⟩ := shape_D (k := k) (by omega) S
  have l0 := l1ne left
  have l1 := l1sub left
  have e := h k (by omega) S
  simp [bodies, b_knots_if_t1, b_knots_if_t2, b_knots_if_t3, b_knots_if_t4, b_knots_if_t5, zEv, List.map_cons, List.map_nil, List.length_cons, List.length_nil, List.cons_append, List.nil_append, List.append_nil, List.getElem?_cons_zero, List.getElem?_cons_succ, List.set_cons_zero, List.set_cons_succ, ofString_inj, ofString_beq, l0, l1, isD, tyD, at0, isNon, sizeLine_eq, drop1, gdTup, gsCons, gsNil, gdName, s2, len_w, zip_w, e]
theorem kz_rnd {d : D} (h : KZ d) : KZ (.tup [.str "round", d]) := kz_of fun left k hk S => by
  rw [Fk_s]
  obtain ⟨s1, s2, s3, s4, s5, s6, s7, s8⟩ := shape_D (k := k) (by omega) S
  have l0 := l1ne left
  have l1 := l1sub left
  have e := h left k (by omega) S
  simp [bodies, b_knots_if_t1, b_knots_if_t2, b_knots_if_t3, b_knots_if_t4, b_knots_if_t5, zEv, List.map_cons, List.map_nil, List.length_cons, List.length_nil, List.cons_append, List.nil_append, List.append_nil, List.getElem?_cons_zero, List.getElem?_cons_succ, List.set_cons_zero, List.set_cons_succ, ofString_inj, ofString_beq, l0, l1, isD, tyD, at0, isNon, sizeLine_eq, drop1, gdTup, gsCons, gsNil, gdName, s8, len_p, zip_p, e]
theorem kz_fun_m {d x b : D} (h : LN "m" d) : KZ (.tup [.str "fun", d, x, b]) := kz_of fun left k hk S => by
  rw [Fk_s]
  obtain ⟨s1, s2, s3, s4, s5, s6, s7, s8⟩ := shape_D (k := k) (by omega) S
  have l0 := l1ne left
  have l1 := l1sub left
  have e := h k (by omega) S
  simp [bodies, b_knots_if_t1, b_knots_if_t2, b_knots_if_t3, b_knots_if_t4, b_knots_if_t5, zEv, List.map_cons, List.map_nil, List.length_cons, List.length_nil, List.cons_append, List.nil_append, List.append_nil, List.getElem?_cons_zero, List.getElem?_cons_succ, List.set_cons_zero, List.set_cons_succ, ofString_inj, ofString_beq, l0, l1, isD, tyD, at0, isNon, sizeLine_eq, drop1, gdTup, gsCons, gsNil, gdName, s3, len_mwp, zip_mwp, e]
theorem kz_fun_w {a : Int} {d b : D} (ha : markOk a) (h : LN "w" d) : KZ (.tup [.str "fun", .int a, d, b]) := kz_of fun left k hk S => by
  rw [Fk_s]
  obtain ⟨s1, s2, s3, s4, s5, s6, s7, s8⟩ := shape_D (k := k) (by omega) S
  have l0 := l1ne left
  have l1 := l1sub left
  have e0 := leaf_m (k := k) (by omega) a ha S
  have e := h k (by omega) S
  simp [bodies, b_knots_if_t1, b_knots_if_t2, b_knots_if_t3, b_knots_if_t4, b_knots_if_t5, zEv, List.map_cons, List.map_nil, List.length_cons, List.length_nil, List.cons_append, List.nil_append, List.append_nil, List.getElem?_cons_zero, List.getElem?_cons_succ, List.set_cons_zero, List.set_cons_succ, ofString_inj, ofString_beq, l0, l1, isD, tyD, at0, isNon, sizeLine_eq, drop1, gdTup, gsCons, gsNil, gdName, s3, len_mwp, zip_mwp, e0, e]
theorem kz_fun_p {a : Int} {x : Str} {b : D} (ha : markOk a) (hx : nmOk x) (h : KZ b) : KZ (.tup [.str "fun", .int a, .str x, b]) := kz_of fun left k hk S => by
  rw [Fk_s]
  obtain ⟨s1, s2, s3, s4, s5, s6, s7, s8⟩ := shape_D (k := k) (by omega) S
  have l0 := l1ne left
  have l1 := l1sub left
  have e0 := leaf_m (k := k) (by omega) a ha S
  have e1 := leaf_w (k := k) (by omega) x hx S
  have e := h left k (by omega) S
  simp [bodies, b_knots_if_t1, b_knots_if_t2, b_knots_if_t3, b_knots_if_t4, b_knots_if_t5, zEv, List.map_cons, List.map_nil, List.length_cons, List.length_nil, List.cons_append, List.nil_append, List.append_nil, List.getElem?_cons_zero, List.getElem?_cons_succ, List.set_cons_zero, List.set_cons_succ, ofString_inj, ofString_beq, l0, l1, isD, tyD, at0, isNon, sizeLine_eq, drop1, gdTup, gsCons, gsNil, gdName, s3, len_mwp, zip_mwp, e0, e1, e]
theorem kz_take_m {d x b : D} (h : LN "m" d) : KZ (.tup [.str "take", d, x, b]) := kz_of fun left k hk S => by
  rw [Fk_s]
  obtain ⟨s1, s2, s3, s4, s5, s6, s7, s8⟩ := shape_D (k := k) (by omega) S
  have l0 := l1ne left
  have l1 := l1sub left
  have e := h k (by omega) S
  simp [bodies, b_knots_if_t1, b_knots_if_t2, b_knots_if_t3, b_knots_if_t4, b_knots_if_t5, zEv, List.map_cons, List.map_nil, List.length_cons, List.length_nil, List.cons_append, List.nil_append, List.append_nil, List.getElem?_cons_zero, List.getElem?_cons_succ, List.set_cons_zero, List.set_cons_succ, ofString_inj, ofString_beq, l0, l1, isD, tyD, at0, isNon, sizeLine_eq, drop1, gdTup, gsCons, gsNil, gdName, s4, len_mwp, zip_mwp, e]
theorem kz_take_w {a : Int} {d b : D} (ha : markOk a) (h : LN "w" d) : KZ (.tup [.str "take", .int a, d, b]) := kz_of fun left k hk S => by
  rw [Fk_s]
  obtain ⟨s1, s2, s3, s4, s5, s6, s7, s8⟩ := shape_D (k := k) (by omega) S
  have l0 := l1ne left
  have l1 := l1sub left
  have e0 := leaf_m (k := k) (by omega) a ha S
  have e := h k (by omega) S
  simp [bodies, b_knots_if_t1, b_knots_if_t2, b_knots_if_t3, b_knots_if_t4, b_knots_if_t5, zEv, List.map_cons, List.map_nil, List.length_cons, List.length_nil, List.cons_append, List.nil_append, List.append_nil, List.getElem?_cons_zero, List.getElem?_cons_succ, List.set_cons_zero, List.set_cons_succ, ofString_inj, ofString_beq, l0, l1, isD, tyD, at0, isNon, sizeLine_eq, drop1, gdTup, gsCons, gsNil, gdName, s4, len_mwp, zip_mwp, e0, e]
theorem kz_take_p {a : Int} {x : Str} {b : D} (ha : markOk a) (hx : nmOk x) (h : KZ b) : KZ (.tup [.str "take", .int a, .str x, b]) := kz_of fun left k hk S => by
  rw [Fk_s]
  obtain ⟨s1, s2, s3, s4, s5, s6, s7, s8⟩ := shape_D (k := k) (by omega) S
  have l0 := l1ne left
  have l1 := l1sub left
  have e0 := leaf_m (k := k) (by omega) a ha S
  have e1 := leaf_w (k := k) (by omega) x hx S
  have e := h left k (by omega) S
  simp [bodies, b_knots_if_t1, b_knots_if_t2, b_knots_if_t3, b_knots_if_t4, b_knots_if_t5, zEv, List.map_cons, List.map_nil, List.length_cons, List.length_nil, List.cons_append, List.nil_append, List.append_nil, List.getElem?_cons_zero, List.getElem?_cons_succ, List.set_cons_zero, List.set_cons_succ, ofString_inj, ofString_beq, l0, l1, isD, tyD, at0, isNon, sizeLine_eq, drop1, gdTup, gsCons, gsNil, gdName, s4, len_mwp, zip_mwp, e0, e1, e]
theorem kz_call_m {d f g : D} (h : LN "m" d) : KZ (.tup [.str "call", d, f, g]) := kz_of fun left k hk S => by
  rw [Fk_s]
  obtain ⟨s1, s2, s3, s4, s5, s6, s7, s8⟩ := shape_D (k := k) (by omega) S
  have l0 := l1ne left
  have l1 := l1sub left
  have e := h k (by omega) S
  simp [bodies, b_knots_if_t1, b_knots_if_t2, b_knots_if_t3, b_knots_if_t4, b_knots_if_t5, zEv, List.map_cons, List.map_nil, List.length_cons, List.length_nil, List.cons_append, List.nil_append, List.append_nil, List.getElem?_cons_zero, List.getElem?_cons_succ, List.set_cons_zero, List.set_cons_succ, ofString_inj, ofString_beq, l0, l1, isD, tyD, at0, isNon, sizeLine_eq, drop1, gdTup, gsCons, gsNil, gdName, s5, len_mpp, zip_mpp, e]
theorem kz_call_2 {a : Int} {f g : D} (ha : markOk a) (h : KZ f) : KZ (.tup [.str "call", .int a, f, g]) := kz_of fun left k hk S => by
  rw [Fk_s]
  obtain ⟨s1, s2, s3, s4, s5, s6, s7, s8⟩ := shape_D (k := k) (by omega) S
  have l0 := l1ne left
  have l1 := l1sub left
  have e0 := leaf_m (k := k) (by omega) a ha S
  have e := h left k (by omega) S
  simp [bodies, b_knots_if_t1, b_knots_if_t2, b_knots_if_t3, b_knots_if_t4, b_knots_if_t5, zEv, List.map_cons, List.map_nil, List.length_cons, List.length_nil, List.cons_append, List.nil_append, List.append_nil, List.getElem?_cons_zero, List.getElem?_cons_succ, List.set_cons_zero, List.set_cons_succ, ofString_inj, ofString_beq, l0, l1, isD, tyD, at0, isNon, sizeLine_eq, drop1, gdTup, gsCons, gsNil, gdName, s5, len_mpp, zip_mpp, e0, e]
theorem kz_call_3 {a : Int} {f : Pc} {sc : List Str} {g : D} (ha : markOk a) (hf : wf f sc) (h : KZ g) : KZ (.tup [.str "call", .int a, f.d, g]) := kz_of fun left k hk S => by
  rw [Fk_s]
  obtain ⟨s1, s2, s3, s4, s5, s6, s7, s8⟩ := shape_D (k := k) (by omega) S
  have l0 := l1ne left
  have l1 := l1sub left
  have e0 := leaf_m (k := k) (by omega) a ha S
  have e1 := knots_K f sc k left S hf (by omega)
  have e := h left k (by omega) S
  generalize kf f left = u at e1
  by_cases hu : u = 0
  · simp [bodies, b_knots_if_t1, b_knots_if_t2, b_knots_if_t3, b_knots_if_t4, b_knots_if_t5, zEv, List.map_cons, List.map_nil, List.length_cons, List.length_nil, List.cons_append, List.nil_append, List.append_nil, List.getElem?_cons_zero, List.getElem?_cons_succ, List.set_cons_zero, List.set_cons_succ, ofString_inj, ofString_beq, l0, l1, isD, tyD, at0, isNon, sizeLine_eq, drop1, gdTup, gsCons, gsNil, gdName, s5, len_mpp, zip_mpp, e0, e1, hu]
  have k0 : ¬ (u : Int) = 0 := by omega
  by_cases h3 : (300 : Int) < 1 + (u : Int)
  · simp [bodies, b_knots_if_t1, b_knots_if_t2, b_knots_if_t3, b_knots_if_t4, b_knots_if_t5, zEv, List.map_cons, List.map_nil, List.length_cons, List.length_nil, List.cons_append, List.nil_append, List.append_nil, List.getElem?_cons_zero, List.getElem?_cons_succ, List.set_cons_zero, List.set_cons_succ, ofString_inj, ofString_beq, l0, l1, isD, tyD, at0, isNon, sizeLine_eq, drop1, gdTup, gsCons, gsNil, gdName, s5, len_mpp, zip_mpp, e0, e1, e, hu, k0, h3]
  · simp [bodies, b_knots_if_t1, b_knots_if_t2, b_knots_if_t3, b_knots_if_t4, b_knots_if_t5, zEv, List.map_cons, List.map_nil, List.length_cons, List.length_nil, List.cons_append, List.nil_append, List.append_nil, List.getElem?_cons_zero, List.getElem?_cons_succ, List.set_cons_zero, List.set_cons_succ, ofString_inj, ofString_beq, l0, l1, isD, tyD, at0, isNon, sizeLine_eq, drop1, gdTup, gsCons, gsNil, gdName, s5, len_mpp, zip_mpp, e0, e1, e, hu, k0, h3]
theorem kz_plus_m {d f g : D} (h : LN "m" d) : KZ (.tup [.str "plus", d, f, g]) := kz_of fun left k hk S => by
  rw [Fk_s]
  obtain ⟨s1, s2, s3, s4, s5, s6, s7, s8⟩ := shape_D (k := k) (by omega) S
  have l0 := l1ne left
  have l1 := l1sub left
  have e := h k (by omega) S
  simp [bodies, b_knots_if_t1, b_knots_if_t2, b_knots_if_t3, b_knots_if_t4, b_knots_if_t5, zEv, List.map_cons, List.map_nil, List.length_cons, List.length_nil, List.cons_append, List.nil_append, List.append_nil, List.getElem?_cons_zero, List.getElem?_cons_succ, List.set_cons_zero, List.set_cons_succ, ofString_inj, ofString_beq, l0, l1, isD, tyD, at0, isNon, sizeLine_eq, drop1, gdTup, gsCons, gsNil, gdName, s6, len_mpp, zip_mpp, e]
theorem kz_plus_2 {a : Int} {f g : D} (ha : markOk a) (h : KZ f) : KZ (.tup [.str "plus", .int a, f, g]) := kz_of fun left k hk S => by
  rw [Fk_s]
  obtain ⟨s1, s2, s3, s4, s5, s6, s7, s8⟩ := shape_D (k := k) (by omega) S
  have l0 := l1ne left
  have l1 := l1sub left
  have e0 := leaf_m (k := k) (by omega) a ha S
  have e := h left k (by omega) S
  simp [bodies, b_knots_if_t1, b_knots_if_t2, b_knots_if_t3, b_knots_if_t4, b_knots_if_t5, zEv, List.map_cons, List.map_nil, List.length_cons, List.length_nil, List.cons_append, List.nil_append, List.append_nil, List.getElem?_cons_zero, List.getElem?_cons_succ, List.set_cons_zero, List.set_cons_succ, ofString_inj, ofString_beq, l0, l1, isD, tyD, at0, isNon, sizeLine_eq, drop1, gdTup, gsCons, gsNil, gdName, s6, len_mpp, zip_mpp, e0, e]
theorem kz_plus_3 {a : Int} {f : Pc} {sc : List Str} {g : D} (ha : markOk a) (hf : wf f sc) (h : KZ g) : KZ (.tup [.str "plus", .int a, f.d, g]) := kz_of fun left k hk S => by
  rw [Fk_s]
  obtain ⟨s1, s2, s3, s4, s5, s6, s7, s8⟩ := shape_D (k := k) (by omega) S
  have l0 := l1ne left
  have l1 := l1sub left
  have e0 := leaf_m (k := k) (by omega) a ha S
  have e1 := knots_K f sc k left S hf (by omega)
  have e := h left k (by omega) S
  generalize kf f left = u at e1
  by_cases hu : u = 0
  · simp [bodies, b_knots_if_t1, b_knots_if_t2, b_knots_if_t3, b_knots_if_t4, b_knots_if_t5, zEv, List.map_cons, List.map_nil, List.length_cons, List.length_nil, List.cons_append, List.nil_append, List.append_nil, List.getElem?_cons_zero, List.getElem?_cons_succ, List.set_cons_zero, List.set_cons_succ, ofString_inj, ofString_beq, l0, l1, isD, tyD, at0, isNon, sizeLine_eq, drop1, gdTup, gsCons, gsNil, gdName, s6, len_mpp, zip_mpp, e0, e1, hu]
  have k0 : ¬ (u : Int) = 0 := by omega
  by_cases h3 : (300 : Int) < 1 + (u : Int)
  · simp [bodies, b_knots_if_t1, b_knots_if_t2, b_knots_if_t3, b_knots_if_t4, b_knots_if_t5, zEv, List.map_cons, List.map_nil, List.length_cons, List.length_nil, List.cons_append, List.nil_append, List.append_nil, List.getElem?_cons_zero, List.getElem?_cons_succ, List.set_cons_zero, List.set_cons_succ, ofString_inj, ofString_beq, l0, l1, isD, tyD, at0, isNon, sizeLine_eq, drop1, gdTup, gsCons, gsNil, gdName, s6, len_mpp, zip_mpp, e0, e1, e, hu, k0, h3]
  · simp [bodies, b_knots_if_t1, b_knots_if_t2, b_knots_if_t3, b_knots_if_t4, b_knots_if_t5, zEv, List.map_cons, List.map_nil, List.length_cons, List.length_nil, List.cons_append, List.nil_append, List.append_nil, List.getElem?_cons_zero, List.getElem?_cons_succ, List.set_cons_zero, List.set_cons_succ, ofString_inj, ofString_beq, l0, l1, isD, tyD, at0, isNon, sizeLine_eq, drop1, gdTup, gsCons, gsNil, gdName, s6, len_mpp, zip_mpp, e0, e1, e, hu, k0, h3]
theorem kz_pick_m {d c f g : D} (h : LN "m" d) : KZ (.tup [.str "pick", d, c, f, g]) := kz_of fun left k hk S => by
  rw [Fk_s]
  obtain ⟨s1, s2, s3, s4, s5, s6, s7, s8⟩ := shape_D (k := k) (by omega) S
  have l0 := l1ne left
  have l1 := l1sub left
  have e := h k (by omega) S
  simp [bodies, b_knots_if_t1, b_knots_if_t2, b_knots_if_t3, b_knots_if_t4, b_knots_if_t5, zEv, List.map_cons, List.map_nil, List.length_cons, List.length_nil, List.cons_append, List.nil_append, List.append_nil, List.getElem?_cons_zero, List.getElem?_cons_succ, List.set_cons_zero, List.set_cons_succ, ofString_inj, ofString_beq, l0, l1, isD, tyD, at0, isNon, sizeLine_eq, drop1, gdTup, gsCons, gsNil, gdName, s7, len_mppp, zip_mppp, e]
theorem kz_pick_2 {a : Int} {c f g : D} (ha : markOk a) (h : KZ c) : KZ (.tup [.str "pick", .int a, c, f, g]) := kz_of fun left k hk S => by
  rw [Fk_s]
  obtain ⟨s1, s2, s3, s4, s5, s6, s7, s8⟩ := shape_D (k := k) (by omega) S
  have l0 := l1ne left
  have l1 := l1sub left
  have e0 := leaf_m (k := k) (by omega) a ha S
  have e := h left k (by omega) S
  simp [bodies, b_knots_if_t1, b_knots_if_t2, b_knots_if_t3, b_knots_if_t4, b_knots_if_t5, zEv, List.map_cons, List.map_nil, List.length_cons, List.length_nil, List.cons_append, List.nil_append, List.append_nil, List.getElem?_cons_zero, List.getElem?_cons_succ, List.set_cons_zero, List.set_cons_succ, ofString_inj, ofString_beq, l0, l1, isD, tyD, at0, isNon, sizeLine_eq, drop1, gdTup, gsCons, gsNil, gdName, s7, len_mppp, zip_mppp, e0, e]
theorem kz_pick_3 {a : Int} {c : Pc} {sc : List Str} {f g : D} (ha : markOk a) (hc : wf c sc) (h : KZ f) : KZ (.tup [.str "pick", .int a, c.d, f, g]) := kz_of fun left k hk S => by
  rw [Fk_s]
  obtain ⟨s1, s2, s3, s4, s5, s6, s7, s8⟩ := shape_D (k := k) (by omega) S
  have l0 := l1ne left
  have l1 := l1sub left
  have e0 := leaf_m (k := k) (by omega) a ha S
  have e1 := knots_K c sc k left S hc (by omega)
  have e := h left k (by omega) S
  generalize kf c left = u at e1
  by_cases hu : u = 0
  · simp [bodies, b_knots_if_t1, b_knots_if_t2, b_knots_if_t3, b_knots_if_t4, b_knots_if_t5, zEv, List.map_cons, List.map_nil, List.length_cons, List.length_nil, List.cons_append, List.nil_append, List.append_nil, List.getElem?_cons_zero, List.getElem?_cons_succ, List.set_cons_zero, List.set_cons_succ, ofString_inj, ofString_beq, l0, l1, isD, tyD, at0, isNon, sizeLine_eq, drop1, gdTup, gsCons, gsNil, gdName, s7, len_mppp, zip_mppp, e0, e1, hu]
  have k0 : ¬ (u : Int) = 0 := by omega
  by_cases h3 : (300 : Int) < 1 + (u : Int)
  · simp [bodies, b_knots_if_t1, b_knots_if_t2, b_knots_if_t3, b_knots_if_t4, b_knots_if_t5, zEv, List.map_cons, List.map_nil, List.length_cons, List.length_nil, List.cons_append, List.nil_append, List.append_nil, List.getElem?_cons_zero, List.getElem?_cons_succ, List.set_cons_zero, List.set_cons_succ, ofString_inj, ofString_beq, l0, l1, isD, tyD, at0, isNon, sizeLine_eq, drop1, gdTup, gsCons, gsNil, gdName, s7, len_mppp, zip_mppp, e0, e1, e, hu, k0, h3]
  · simp [bodies, b_knots_if_t1, b_knots_if_t2, b_knots_if_t3, b_knots_if_t4, b_knots_if_t5, zEv, List.map_cons, List.map_nil, List.length_cons, List.length_nil, List.cons_append, List.nil_append, List.append_nil, List.getElem?_cons_zero, List.getElem?_cons_succ, List.set_cons_zero, List.set_cons_succ, ofString_inj, ofString_beq, l0, l1, isD, tyD, at0, isNon, sizeLine_eq, drop1, gdTup, gsCons, gsNil, gdName, s7, len_mppp, zip_mppp, e0, e1, e, hu, k0, h3]
theorem kz_pick_4 {a : Int} {c f : Pc} {sc : List Str} {g : D} (ha : markOk a) (hc : wf c sc) (hf : wf f sc) (h : KZ g) : KZ (.tup [.str "pick", .int a, c.d, f.d, g]) := kz_of fun left k hk S => by
  rw [Fk_s]
  obtain ⟨s1, s2, s3, s4, s5, s6, s7, s8⟩ := shape_D (k := k) (by omega) S
  have l0 := l1ne left
  have l1 := l1sub left
  have e0 := leaf_m (k := k) (by omega) a ha S
  have e1 := knots_K c sc k left S hc (by omega)
  have e2 := knots_K f sc k left S hf (by omega)
  have e := h left k (by omega) S
  generalize kf c left = u at e1
  generalize kf f left = v at e2
  by_cases hu : u = 0
  · simp [bodies, b_knots_if_t1, b_knots_if_t2, b_knots_if_t3, b_knots_if_t4, b_knots_if_t5, zEv, List.map_cons, List.map_nil, List.length_cons, List.length_nil, List.cons_append, List.nil_append, List.append_nil, List.getElem?_cons_zero, List.getElem?_cons_succ, List.set_cons_zero, List.set_cons_succ, ofString_inj, ofString_beq, l0, l1, isD, tyD, at0, isNon, sizeLine_eq, drop1, gdTup, gsCons, gsNil, gdName, s7, len_mppp, zip_mppp, e0, e1, e2, hu]
  have k0 : ¬ (u : Int) = 0 := by omega
  by_cases h3 : (300 : Int) < 1 + (u : Int)
  · simp [bodies, b_knots_if_t1, b_knots_if_t2, b_knots_if_t3, b_knots_if_t4, b_knots_if_t5, zEv, List.map_cons, List.map_nil, List.length_cons, List.length_nil, List.cons_append, List.nil_append, List.append_nil, List.getElem?_cons_zero, List.getElem?_cons_succ, List.set_cons_zero, List.set_cons_succ, ofString_inj, ofString_beq, l0, l1, isD, tyD, at0, isNon, sizeLine_eq, drop1, gdTup, gsCons, gsNil, gdName, s7, len_mppp, zip_mppp, e0, e1, e2, e, hu, k0, h3]
  by_cases hv : v = 0
  · simp [bodies, b_knots_if_t1, b_knots_if_t2, b_knots_if_t3, b_knots_if_t4, b_knots_if_t5, zEv, List.map_cons, List.map_nil, List.length_cons, List.length_nil, List.cons_append, List.nil_append, List.append_nil, List.getElem?_cons_zero, List.getElem?_cons_succ, List.set_cons_zero, List.set_cons_succ, ofString_inj, ofString_beq, l0, l1, isD, tyD, at0, isNon, sizeLine_eq, drop1, gdTup, gsCons, gsNil, gdName, s7, len_mppp, zip_mppp, e0, e1, e2, e, hu, k0, h3, hv]
  have k4 : ¬ (v : Int) = 0 := by omega
  by_cases h5 : (300 : Int) < 1 + (u : Int) + (v : Int)
  · simp [bodies, b_knots_if_t1, b_knots_if_t2, b_knots_if_t3, b_knots_if_t4, b_knots_if_t5, zEv, List.map_cons, List.map_nil, List.length_cons, List.length_nil, List.cons_append, List.nil_append, List.append_nil, List.getElem?_cons_zero, List.getElem?_cons_succ, List.set_cons_zero, List.set_cons_succ, ofString_inj, ofString_beq, l0, l1, isD, tyD, at0, isNon, sizeLine_eq, drop1, gdTup, gsCons, gsNil, gdName, s7, len_mppp, zip_mppp, e0, e1, e2, e, hu, k0, h3, hv, k4, h5]
  · simp [bodies, b_knots_if_t1, b_knots_if_t2, b_knots_if_t3, b_knots_if_t4, b_knots_if_t5, zEv, List.map_cons, List.map_nil, List.length_cons, List.length_nil, List.cons_append, List.nil_append, List.append_nil, List.getElem?_cons_zero, List.getElem?_cons_succ, List.set_cons_zero, List.set_cons_succ, ofString_inj, ofString_beq, l0, l1, isD, tyD, at0, isNon, sizeLine_eq, drop1, gdTup, gsCons, gsNil, gdName, s7, len_mppp, zip_mppp, e0, e1, e2, e, hu, k0, h3, hv, k4, h5]
/-! ## places -/
def plD (l : List Int) : D := .tup (l.map D.int)
def pls : Pc → List (List Int)
  | .fn _ _ b => [] :: (pls b).map (3 :: ·)
  | .take _ _ b => [] :: (pls b).map (3 :: ·)
  | .rnd b => [] :: (pls b).map (1 :: ·)
  | .call _ f g => [] :: ((pls f).map (2 :: ·) ++ (pls g).map (3 :: ·))
  | .plus _ f g => [] :: ((pls f).map (2 :: ·) ++ (pls g).map (3 :: ·))
  | .pick _ c f g => [] :: ((pls c).map (2 :: ·) ++ ((pls f).map (3 :: ·) ++ (pls g).map (4 :: ·)))
  | _ => [[]]
theorem pls_len : ∀ p : Pc, (pls p).length ≤ kn p
  | .num _ => by simp [pls, kn]
  | .name _ => by simp [pls, kn]
  | .fn _ _ b => by have := pls_len b; simp [pls, kn]; omega
  | .take _ _ b => by have := pls_len b; simp [pls, kn]; omega
  | .rnd b => by have := pls_len b; simp [pls, kn]; omega
  | .call _ f g => by have := pls_len f; have := pls_len g; simp [pls, kn]; omega
  | .plus _ f g => by have := pls_len f; have := pls_len g; simp [pls, kn]; omega
  | .pick _ c f g => by have := pls_len c; have := pls_len f; have := pls_len g; simp [pls, kn]; omega
  | .shut .. => by simp [pls, kn]
  | .kept .. => by simp [pls, kn]
theorem pls_deep : ∀ (p : Pc), ∀ l ∈ pls p, l.length + 1 ≤ cd p
  | .num _, l, h => by simp [pls] at h; subst h; simp [cd]
  | .name _, l, h => by simp [pls] at h; subst h; simp [cd]
  | .fn _ _ b, l, h => by
    simp only [pls, List.mem_cons, List.mem_map] at h
    rcases h with rfl | ⟨l', h', rfl⟩
    · simp [cd]
    · have := pls_deep b l' h'; simp [cd]; omega
  | .take _ _ b, l, h => by
    simp only [pls, List.mem_cons, List.mem_map] at h
    rcases h with rfl | ⟨l', h', rfl⟩
    · simp [cd]
    · have := pls_deep b l' h'; simp [cd]; omega
  | .rnd b, l, h => by
    simp only [pls, List.mem_cons, List.mem_map] at h
    rcases h with rfl | ⟨l', h', rfl⟩
    · simp [cd]
    · have := pls_deep b l' h'; simp [cd]; omega
  | .call _ f g, l, h => by
    simp only [pls, List.mem_cons, List.mem_append, List.mem_map] at h
    rcases h with rfl | ⟨l', h', rfl⟩ | ⟨l', h', rfl⟩
    · simp [cd]
    · have := pls_deep f l' h'; simp [cd]; omega
    · have := pls_deep g l' h'; simp [cd]; omega
  | .plus _ f g, l, h => by
    simp only [pls, List.mem_cons, List.mem_append, List.mem_map] at h
    rcases h with rfl | ⟨l', h', rfl⟩ | ⟨l', h', rfl⟩
    · simp [cd]
    · have := pls_deep f l' h'; simp [cd]; omega
    · have := pls_deep g l' h'; simp [cd]; omega
  | .pick _ c f g, l, h => by
    simp only [pls, List.mem_cons, List.mem_append, List.mem_map] at h
    rcases h with rfl | ⟨l', h', rfl⟩ | ⟨l', h', rfl⟩ | ⟨l', h', rfl⟩
    · simp [cd]
    · have := pls_deep c l' h'; simp [cd]; omega
    · have := pls_deep f l' h'; simp [cd]; omega
    · have := pls_deep g l' h'; simp [cd]; omega
  | .shut .., l, h => by simp [pls] at h; subst h; simp; have := cd_pos (Pc.shut ‹_› ‹_› ‹_›); omega
  | .kept .., l, h => by simp [pls] at h; subst h; simp; have := cd_pos (Pc.kept ‹_› ‹_›); omega
theorem pl_lc (i : Int) (p0 d1 : D) (S : List O) (ls : List (List Int)) (hl : ∀ l ∈ ls, l.length ≤ 1000) : lcD (gdName 3) tTrue (eOp dAdd (eTup (aCons (eVar 2) aNil)) (eVar 3)) [some p0, some d1, some (.int i), none] (ls.map plD) S = some ((ls.map (i :: ·)).map plD, S) := by
  have e := lcD_map (gd := gdName 3) (c := tTrue) (e := eOp dAdd (eTup (aCons (eVar 2) aNil)) (eVar 3)) (δ := [some p0, some d1, some (.int i), none]) (S := S) (ds := ls.map plD) (fun d => match d with | .tup xs => .tup (.int i :: xs) | d => d) (fun d hd => by
    obtain ⟨l, hm, rfl⟩ := List.mem_map.mp hd
    have h1 := hl l hm
    have h2 : l.length + 1 ≤ 16777216 := by omega
    have h3 : 1 + l.length ≤ 16777216 := by omega
    refine ⟨_, rfl, rfl, ?_⟩
    unfold plD
    simp [zEv, List.map_cons, List.map_nil, List.length_cons, List.length_nil, List.cons_append, List.nil_append, List.append_nil, List.getElem?_cons_zero, List.getElem?_cons_succ, List.set_cons_zero, List.set_cons_succ, ofString_inj, ofString_beq, sizeLine_eq, h2, h3])
  rw [e, List.map_map, List.map_map]
  rfl
theorem r_2 : rangeD 1 2 = [.int 1] := rfl
theorem r_4 : rangeD 1 4 = [.int 1, .int 2, .int 3] := rfl
theorem r_5 : rangeD 1 5 = [.int 1, .int 2, .int 3, .int 4] := rfl
theorem plD_nil : plD [] = .tup [] := rfl
theorem places_D : ∀ (p : Pc) (sc : List Str) (k : Nat) (S : List O), wf p sc → kn p ≤ 1000 → cd p ≤ 500 → cd p ≤ k → Fk k ._law_places [p.d] S = some (.lst ((pls p).map plD), S)
  | p, _, 0, _, _, _, _, h => by have := cd_pos p; omega
  | .num n, sc, k + 1, S, hw, hn, hc, hk => by
    rw [Fk_s]
    simp [bodies, zEv, List.map_cons, List.map_nil, List.length_cons, List.length_nil, List.cons_append, List.nil_append, List.append_nil, List.getElem?_cons_zero, List.getElem?_cons_succ, List.set_cons_zero, List.set_cons_succ, ofString_inj, ofString_beq, Pc.d, r_2, at1, isT_pc, isT_int, isT_str, pls, plD]
  | .name x, sc, k + 1, S, hw, hn, hc, hk => by
    rw [Fk_s]
    simp [bodies, zEv, List.map_cons, List.map_nil, List.length_cons, List.length_nil, List.cons_append, List.nil_append, List.append_nil, List.getElem?_cons_zero, List.getElem?_cons_succ, List.set_cons_zero, List.set_cons_succ, ofString_inj, ofString_beq, Pc.d, r_2, at1, isT_pc, isT_int, isT_str, pls, plD]
  | .fn a x b, sc, k + 1, S, hw, hn, hc, hk => by
    rw [Fk_s]
    simp only [cd] at hk hc
    simp only [kn] at hn
    have i0 := places_D b _ k S hw.2.2 (by omega) (by omega) (by omega)
    have q0 := pls_len b
    have r0 : (pls b).length ≤ 10000000 := by omega
    have c0 := fun p0 d1 => pl_lc 3 p0 d1 S (pls b) (fun l hl => by have := pls_deep b l hl; omega)
    have t0 : 1 + ((pls b).length) ≤ 16777216 := by omega
    have u0 : ((pls b).length) + 1 ≤ 16777216 := by omega
    simp [bodies, zEv, List.map_cons, List.map_nil, List.length_cons, List.length_nil, List.cons_append, List.nil_append, List.append_nil, List.getElem?_cons_zero, List.getElem?_cons_succ, List.set_cons_zero, List.set_cons_succ, ofString_inj, ofString_beq, Pc.d, r_4, at1, at2, at3, at4, isT_pc, isT_int, isT_str, sizeLine_eq, i0, r0, c0, t0, u0, pls, plD_nil]
  | .take a x b, sc, k + 1, S, hw, hn, hc, hk => by
    rw [Fk_s]
    simp only [cd] at hk hc
    simp only [kn] at hn
    have i0 := places_D b _ k S hw.2.2 (by omega) (by omega) (by omega)
    have q0 := pls_len b
    have r0 : (pls b).length ≤ 10000000 := by omega
    have c0 := fun p0 d1 => pl_lc 3 p0 d1 S (pls b) (fun l hl => by have := pls_deep b l hl; omega)
    have t0 : 1 + ((pls b).length) ≤ 16777216 := by omega
    have u0 : ((pls b).length) + 1 ≤ 16777216 := by omega
    simp [bodies, zEv, List.map_cons, List.map_nil, List.length_cons, List.length_nil, List.cons_append, List.nil_append, List.append_nil, List.getElem?_cons_zero, List.getElem?_cons_succ, List.set_cons_zero, List.set_cons_succ, ofString_inj, ofString_beq, Pc.d, r_4, at1, at2, at3, at4, isT_pc, isT_int, isT_str, sizeLine_eq, i0, r0, c0, t0, u0, pls, plD_nil]
  | .rnd b, sc, k + 1, S, hw, hn, hc, hk => by
    rw [Fk_s]
    simp only [cd] at hk hc
    simp only [kn] at hn
    have hw : wf b sc := hw
    have i0 := places_D b _ k S hw (by omega) (by omega) (by omega)
    have q0 := pls_len b
    have r0 : (pls b).length ≤ 10000000 := by omega
    have c0 := fun p0 d1 => pl_lc 1 p0 d1 S (pls b) (fun l hl => by have := pls_deep b l hl; omega)
    have t0 : 1 + ((pls b).length) ≤ 16777216 := by omega
    have u0 : ((pls b).length) + 1 ≤ 16777216 := by omega
    simp [bodies, zEv, List.map_cons, List.map_nil, List.length_cons, List.length_nil, List.cons_append, List.nil_append, List.append_nil, List.getElem?_cons_zero, List.getElem?_cons_succ, List.set_cons_zero, List.set_cons_succ, ofString_inj, ofString_beq, Pc.d, r_2, at1, at2, at3, at4, isT_pc, isT_int, isT_str, sizeLine_eq, i0, r0, c0, t0, u0, pls, plD_nil]
  | .call a f g, sc, k + 1, S, hw, hn, hc, hk => by
    rw [Fk_s]
    simp only [cd] at hk hc
    simp only [kn] at hn
    have i0 := places_D f _ k S hw.2.1 (by omega) (by omega) (by omega)
    have q0 := pls_len f
    have r0 : (pls f).length ≤ 10000000 := by omega
    have c0 := fun p0 d1 => pl_lc 2 p0 d1 S (pls f) (fun l hl => by have := pls_deep f l hl; omega)
    have i1 := places_D g _ k S hw.2.2 (by omega) (by omega) (by omega)
    have q1 := pls_len g
    have r1 : (pls g).length ≤ 10000000 := by omega
    have c1 := fun p0 d1 => pl_lc 3 p0 d1 S (pls g) (fun l hl => by have := pls_deep g l hl; omega)
    have t0 : 1 + ((pls f).length) ≤ 16777216 := by omega
    have u0 : ((pls f).length) + 1 ≤ 16777216 := by omega
    have t1 : 1 + ((pls f).length + (pls g).length) ≤ 16777216 := by omega
    have v1 : (pls f).length + 1 + (pls g).length ≤ 16777216 := by omega
    have u1 : ((pls f).length + (pls g).length) + 1 ≤ 16777216 := by omega
    simp [bodies, zEv, List.map_cons, List.map_nil, List.length_cons, List.length_nil, List.cons_append, List.nil_append, List.append_nil, List.getElem?_cons_zero, List.getElem?_cons_succ, List.set_cons_zero, List.set_cons_succ, ofString_inj, ofString_beq, Pc.d, r_4, at1, at2, at3, at4, isT_pc, isT_int, isT_str, sizeLine_eq, i0, r0, c0, i1, r1, c1, t0, u0, t1, u1, v1, pls, plD_nil]
  | .plus a f g, sc, k + 1, S, hw, hn, hc, hk => by
    rw [Fk_s]
    simp only [cd] at hk hc
    simp only [kn] at hn
    have i0 := places_D f _ k S hw.2.1 (by omega) (by omega) (by omega)
    have q0 := pls_len f
    have r0 : (pls f).length ≤ 10000000 := by omega
    have c0 := fun p0 d1 => pl_lc 2 p0 d1 S (pls f) (fun l hl => by have := pls_deep f l hl; omega)
    have i1 := places_D g _ k S hw.2.2 (by omega) (by omega) (by omega)
    have q1 := pls_len g
    have r1 : (pls g).length ≤ 10000000 := by omega
    have c1 := fun p0 d1 => pl_lc 3 p0 d1 S (pls g) (fun l hl => by have := pls_deep g l hl; omega)
    have t0 : 1 + ((pls f).length) ≤ 16777216 := by omega
    have u0 : ((pls f).length) + 1 ≤ 16777216 := by omega
    have t1 : 1 + ((pls f).length + (pls g).length) ≤ 16777216 := by omega
    have v1 : (pls f).length + 1 + (pls g).length ≤ 16777216 := by omega
    have u1 : ((pls f).length + (pls g).length) + 1 ≤ 16777216 := by omega
    simp [bodies, zEv, List.map_cons, List.map_nil, List.length_cons, List.length_nil, List.cons_append, List.nil_append, List.append_nil, List.getElem?_cons_zero, List.getElem?_cons_succ, List.set_cons_zero, List.set_cons_succ, ofString_inj, ofString_beq, Pc.d, r_4, at1, at2, at3, at4, isT_pc, isT_int, isT_str, sizeLine_eq, i0, r0, c0, i1, r1, c1, t0, u0, t1, u1, v1, pls, plD_nil]
  | .pick a c f g, sc, k + 1, S, hw, hn, hc, hk => by
    rw [Fk_s]
    simp only [cd] at hk hc
    simp only [kn] at hn
    have i0 := places_D c _ k S hw.2.1 (by omega) (by omega) (by omega)
    have q0 := pls_len c
    have r0 : (pls c).length ≤ 10000000 := by omega
    have c0 := fun p0 d1 => pl_lc 2 p0 d1 S (pls c) (fun l hl => by have := pls_deep c l hl; omega)
    have i1 := places_D f _ k S hw.2.2.1 (by omega) (by omega) (by omega)
    have q1 := pls_len f
    have r1 : (pls f).length ≤ 10000000 := by omega
    have c1 := fun p0 d1 => pl_lc 3 p0 d1 S (pls f) (fun l hl => by have := pls_deep f l hl; omega)
    have i2 := places_D g _ k S hw.2.2.2 (by omega) (by omega) (by omega)
    have q2 := pls_len g
    have r2 : (pls g).length ≤ 10000000 := by omega
    have c2 := fun p0 d1 => pl_lc 4 p0 d1 S (pls g) (fun l hl => by have := pls_deep g l hl; omega)
    have t0 : 1 + ((pls c).length) ≤ 16777216 := by omega
    have u0 : ((pls c).length) + 1 ≤ 16777216 := by omega
    have t1 : 1 + ((pls c).length + (pls f).length) ≤ 16777216 := by omega
    have v1 : (pls c).length + 1 + (pls f).length ≤ 16777216 := by omega
    have v2 : (pls c).length + 1 + (pls f).length + (pls g).length ≤ 16777216 := by omega
    have v3 : (pls c).length + (pls f).length + 1 + (pls g).length ≤ 16777216 := by omega
    have v4 : (pls c).length + ((pls f).length + 1) + (pls g).length ≤ 16777216 := by omega
    have u1 : ((pls c).length + (pls f).length) + 1 ≤ 16777216 := by omega
    have t2 : 1 + ((pls c).length + (pls f).length + (pls g).length) ≤ 16777216 := by omega
    have u2 : ((pls c).length + (pls f).length + (pls g).length) + 1 ≤ 16777216 := by omega
    simp [bodies, zEv, List.map_cons, List.map_nil, List.length_cons, List.length_nil, List.cons_append, List.nil_append, List.append_nil, List.getElem?_cons_zero, List.getElem?_cons_succ, List.set_cons_zero, List.set_cons_succ, ofString_inj, ofString_beq, Pc.d, r_5, at1, at2, at3, at4, isT_pc, isT_int, isT_str, sizeLine_eq, i0, r0, c0, i1, r1, c1, i2, r2, c2, t0, u0, t1, u1, t2, u2, v1, v2, v3, v4, pls, plD_nil]
  | .shut .., _, _, _, h, _, _, _ => h.elim
  | .kept .., _, _, _, h, _, _, _ => h.elim
/-! ## the wrong thing at a part -/
theorem ne_nil (l : List Int) (S : List O) : dNe 64 (plD l) (.tup []) S = some (.bl (!l.isEmpty)) := by
  have e : ∀ l : List Int, PyData.canLayAll0 (pyL (l.map D.int)) = true := by
    intro l
    induction l with
    | nil => rfl
    | cons x r ih => simp only [List.map_cons, pyL, py, PyData.canLayAll0, PyData.canLay0, ih, Bool.and_self]
  unfold dNe dEqv plD
  simp only [pyS, py, PyData.canLay0, e l, pyL, PyData.canLayAll0, PyData.depth, PyData.depthAll]
  rw [if_pos ⟨trivial, trivial, by omega⟩]
  cases l <;> simp [PyData.eqv, PyData.eqvAll, pyL]
theorem ne_nil0 (S : List O) : dNe 64 (.tup []) (.tup []) S = some (.bl false) := ne_nil [] S
theorem in_ft (w : Str) (S : List O) : dIn true (.str w) (.tup [.str "fun", .str "take"]) S = some (.bl (!(decide (w = "fun") || decide (w = "take")))) := by
  unfold dIn
  have e0 : ∀ y : Str, eqF (.str y) (.str w) = (y == w) := fun y => rfl
  simp only [seqA, seqL, Option.bind_some]
  have h1 : ([D.str "fun", .str "take"] : List D).all flatD = true := rfl
  rw [if_pos ⟨rfl, h1⟩]
  simp only [List.any_cons, List.any_nil, e0, Bool.or_false, if_true]
  have c : ∀ y : Str, (y == w) = decide (w = y) := fun y => by
    by_cases h : w = y
    · subst h; simp
    · have : ¬ y = w := fun e => h e.symm
      simp [h, this]
  rw [c, c]
section
variable {k : Nat} {w : Str} {x : D} {r : List D} {c : Int} {S : List O}
theorem ch_w (h0 : 0 ≤ c % 12) (h : c % 12 < 2) (hl : w.length ≤ 10) (hr : r.length ≤ 10) {d : D} (ha : atI [D.str (w ++ Str.ofString "s"), .str "Fun", .str "", .non, .int 7, .str "value", .str "shut", .lst [.str "fun"]] (c / 12 % 8) = some d) :
    Fk (k + 1) ._law_changed [.tup (.str w :: x :: r), .tup [], .int c] S = some (.tup (d :: x :: r), S) := by
  rw [Fk_s]
  have l1 : w.length + 1 ≤ 16777216 := by omega
  have ls : (Str.ofString "s").length = 1 := by decide +kernel
  have l2 : 1 + (r.length + 1) ≤ 16777216 := by omega
  simp [bodies, b__law_changed_t1, b__law_changed_t2, b__law_changed_t3, zEv, List.map_cons, List.map_nil, List.length_cons, List.length_nil, List.cons_append, List.nil_append, List.append_nil, List.getElem?_cons_zero, List.getElem?_cons_succ, List.set_cons_zero, List.set_cons_succ, ofString_inj, ofString_beq, ne_nil0, at0, drop1, h, ha, sizeLine_eq, l1, ls, l2]
theorem ch_2 (h : c % 12 = 2) (hr : r.length ≤ 10) : Fk (k + 1) ._law_changed [.tup (.str w :: x :: r), .tup [], .int c] S = some (.tup (.str w :: x :: (r ++ [x])), S) := by
  rw [Fk_s]
  have l1 : r.length + 1 + 1 + 1 ≤ 16777216 := by omega
  simp [bodies, b__law_changed_t1, b__law_changed_t2, b__law_changed_t3, b__law_changed_t4, zEv, List.map_cons, List.map_nil, List.length_cons, List.length_nil, List.cons_append, List.nil_append, List.append_nil, List.getElem?_cons_zero, List.getElem?_cons_succ, List.set_cons_zero, List.set_cons_succ, ofString_inj, ofString_beq, ne_nil0, at0, at1, drop1, h, sizeLine_eq, l1]
theorem ch_3 (h : c % 12 = 3) : Fk (k + 1) ._law_changed [.tup (.str w :: x :: r), .tup [], .int c] S = some (.tup (cutD (.str w :: x :: r) none (some (-1))), S) := by
  rw [Fk_s]
  simp [bodies, b__law_changed_t1, b__law_changed_t2, b__law_changed_t3, b__law_changed_t4, b__law_changed_t5, zEv, List.map_cons, List.map_nil, List.length_cons, List.length_nil, List.cons_append, List.nil_append, List.append_nil, List.getElem?_cons_zero, List.getElem?_cons_succ, List.set_cons_zero, List.set_cons_succ, ofString_inj, ofString_beq, ne_nil0, at0, at1, drop1, h]
theorem ch_4 (h : c % 12 = 4) (hr : r.length ≤ 10) : Fk (k + 1) ._law_changed [.tup (.str w :: x :: r), .tup [], .int c] S = some (.lst (.str w :: x :: r), S) := by
  rw [Fk_s]
  have l1 : r.length + 1 + 1 ≤ 16777216 := by omega
  have l2 : r.length + 1 + 1 ≤ 10000000 := by omega
  simp [bodies, b__law_changed_t1, b__law_changed_t2, b__law_changed_t3, b__law_changed_t4, b__law_changed_t5, b__law_changed_t6, zEv, List.map_cons, List.map_nil, List.length_cons, List.length_nil, List.cons_append, List.nil_append, List.append_nil, List.getElem?_cons_zero, List.getElem?_cons_succ, List.set_cons_zero, List.set_cons_succ, ofString_inj, ofString_beq, ne_nil0, at0, at1, drop1, h, sizeLine_eq, l1, l2]
theorem ch_5 (h : c % 12 = 5) {d : D} (ha : atI [D.non, .tup [], .str "name", .int 5, .bl true] (c / 12 % 5) = some d) : Fk (k + 1) ._law_changed [.tup (.str w :: x :: r), .tup [], .int c] S = some (d, S) := by
  rw [Fk_s]
  simp [bodies, b__law_changed_t1, b__law_changed_t2, b__law_changed_t3, b__law_changed_t4, b__law_changed_t5, b__law_changed_t6, b__law_changed_t7, zEv, List.map_cons, List.map_nil, List.length_cons, List.length_nil, List.cons_append, List.nil_append, List.append_nil, List.getElem?_cons_zero, List.getElem?_cons_succ, List.set_cons_zero, List.set_cons_succ, ofString_inj, ofString_beq, ne_nil0, at0, at1, drop1, h, ha]
end
theorem cut1 (a : D) (r : List D) : cutD (a :: r) none (some 1) = [a] := by simp [cutD, HT.sIx]
theorem cut4 (a b c d : D) (r : List D) : cutD (a :: b :: c :: d :: r) none (some 4) = [a, b, c, d] := by simp [cutD, HT.sIx]
theorem drop3 (a b c : D) (r : List D) : cutD (a :: b :: c :: r) (some 3) none = r := by simp [cutD, HT.sIx]
theorem drop4 (a b c d : D) (r : List D) : cutD (a :: b :: c :: d :: r) (some 4) none = r := by simp [cutD, HT.sIx]
theorem drop5 (a b c d e : D) (r : List D) : cutD (a :: b :: c :: d :: e :: r) (some 5) none = r := by simp [cutD, HT.sIx]
section
variable {k : Nat} {w : Str} {x y z d : D} {r : List D} {c : Int} {S : List O}
theorem ch_num (h : 6 ≤ c % 12) (ha : atI [D.int 1000000000000, .int (-1000000000000), .bl true, .str "1", .non] (c / 12 % 5) = some d) : Fk (k + 1) ._law_changed [.tup [.str "num", x], .tup [], .int c] S = some (.tup [.str "num", d], S) := by
  rw [Fk_s]
  have n2 : ¬ c % 12 < 2 := by omega
  have n3 : ¬ c % 12 = 2 := by omega
  have n4 : ¬ c % 12 = 3 := by omega
  have n5 : ¬ c % 12 = 4 := by omega
  have n6 : ¬ c % 12 = 5 := by omega
  by_cases h10 : c % 12 < 10
  · simp [bodies, b__law_changed_t1, b__law_changed_t2, b__law_changed_t3, b__law_changed_t4, b__law_changed_t5, b__law_changed_t6, b__law_changed_t7, b__law_changed_t8, b__law_changed_t9, b__law_changed_t10, b__law_changed_t11, b__law_changed_t12, pow12, zEv, List.map_cons, List.map_nil, List.length_cons, List.length_nil, List.cons_append, List.nil_append, List.append_nil, List.getElem?_cons_zero, List.getElem?_cons_succ, List.set_cons_zero, List.set_cons_succ, ofString_inj, ofString_beq, ne_nil0, at0, at1, drop1, n2, n3, n4, n5, n6, h10, ha, cut1, drop2, sizeLine_eq]
  · simp [bodies, b__law_changed_t1, b__law_changed_t2, b__law_changed_t3, b__law_changed_t4, b__law_changed_t5, b__law_changed_t6, b__law_changed_t7, b__law_changed_t8, b__law_changed_t9, b__law_changed_t10, b__law_changed_t11, b__law_changed_t12, pow12, zEv, List.map_cons, List.map_nil, List.length_cons, List.length_nil, List.cons_append, List.nil_append, List.append_nil, List.getElem?_cons_zero, List.getElem?_cons_succ, List.set_cons_zero, List.set_cons_succ, ofString_inj, ofString_beq, ne_nil0, at0, at1, drop1, n2, n3, n4, n5, n6, h10, ha, cut1, drop2, sizeLine_eq]
theorem ch_name (h : 6 ≤ c % 12) (ha : atI [D.str "", .str "abcdefghi", .str "A", .str "a b", .str "a1", .str "a\n", .non, .int 3] (c / 12 % 8) = some d) : Fk (k + 1) ._law_changed [.tup [.str "name", x], .tup [], .int c] S = some (.tup [.str "name", d], S) := by
  rw [Fk_s]
  have n2 : ¬ c % 12 < 2 := by omega
  have n3 : ¬ c % 12 = 2 := by omega
  have n4 : ¬ c % 12 = 3 := by omega
  have n5 : ¬ c % 12 = 4 := by omega
  have n6 : ¬ c % 12 = 5 := by omega
  by_cases h10 : c % 12 < 10
  · simp [bodies, b__law_changed_t1, b__law_changed_t2, b__law_changed_t3, b__law_changed_t4, b__law_changed_t5, b__law_changed_t6, b__law_changed_t7, b__law_changed_t8, b__law_changed_t9, b__law_changed_t10, b__law_changed_t11, b__law_changed_t12, pow12, zEv, List.map_cons, List.map_nil, List.length_cons, List.length_nil, List.cons_append, List.nil_append, List.append_nil, List.getElem?_cons_zero, List.getElem?_cons_succ, List.set_cons_zero, List.set_cons_succ, ofString_inj, ofString_beq, ne_nil0, at0, at1, drop1, n2, n3, n4, n5, n6, h10, ha, cut1, drop2, sizeLine_eq]
  · simp [bodies, b__law_changed_t1, b__law_changed_t2, b__law_changed_t3, b__law_changed_t4, b__law_changed_t5, b__law_changed_t6, b__law_changed_t7, b__law_changed_t8, b__law_changed_t9, b__law_changed_t10, b__law_changed_t11, b__law_changed_t12, pow12, zEv, List.map_cons, List.map_nil, List.length_cons, List.length_nil, List.cons_append, List.nil_append, List.append_nil, List.getElem?_cons_zero, List.getElem?_cons_succ, List.set_cons_zero, List.set_cons_succ, ofString_inj, ofString_beq, ne_nil0, at0, at1, drop1, n2, n3, n4, n5, n6, h10, ha, cut1, drop2, sizeLine_eq]
theorem ch_rnd (h : 6 ≤ c % 12) (ha : atI [D.tup [.str "num", .int 1000000000000], .tup [.str "name", .str "X"], .non, .lst [.str "num", .int 1]] (c / 12 % 4) = some d) : Fk (k + 1) ._law_changed [.tup [.str "round", x], .tup [], .int c] S = some (.tup [.str "round", d], S) := by
  rw [Fk_s]
  have n2 : ¬ c % 12 < 2 := by omega
  have n3 : ¬ c % 12 = 2 := by omega
  have n4 : ¬ c % 12 = 3 := by omega
  have n5 : ¬ c % 12 = 4 := by omega
  have n6 : ¬ c % 12 = 5 := by omega
  by_cases h10 : c % 12 < 10
  · simp [bodies, b__law_changed_t1, b__law_changed_t2, b__law_changed_t3, b__law_changed_t4, b__law_changed_t5, b__law_changed_t6, b__law_changed_t7, b__law_changed_t8, b__law_changed_t9, b__law_changed_t10, b__law_changed_t11, b__law_changed_t12, pow12, zEv, List.map_cons, List.map_nil, List.length_cons, List.length_nil, List.cons_append, List.nil_append, List.append_nil, List.getElem?_cons_zero, List.getElem?_cons_succ, List.set_cons_zero, List.set_cons_succ, ofString_inj, ofString_beq, ne_nil0, at0, at1, drop1, n2, n3, n4, n5, n6, h10, ha, cut1, drop2, sizeLine_eq]
  · simp [bodies, b__law_changed_t1, b__law_changed_t2, b__law_changed_t3, b__law_changed_t4, b__law_changed_t5, b__law_changed_t6, b__law_changed_t7, b__law_changed_t8, b__law_changed_t9, b__law_changed_t10, b__law_changed_t11, b__law_changed_t12, pow12, zEv, List.map_cons, List.map_nil, List.length_cons, List.length_nil, List.cons_append, List.nil_append, List.append_nil, List.getElem?_cons_zero, List.getElem?_cons_succ, List.set_cons_zero, List.set_cons_succ, ofString_inj, ofString_beq, ne_nil0, at0, at1, drop1, n2, n3, n4, n5, n6, h10, ha, cut1, drop2, sizeLine_eq]
theorem ch_mark (hw : w ≠ "num" ∧ w ≠ "name" ∧ w ≠ "round") (hr : r.length = 2 ∨ r.length = 3) (h : 6 ≤ c % 12) (hc : c % 12 < 10 ∨ (w ≠ "fun" ∧ w ≠ "take")) (ha : atI [D.int 10000, .int (-1), .bl true, .str "1", .non] (c / 12 % 5) = some d) : Fk (k + 1) ._law_changed [.tup (.str w :: x :: r), .tup [], .int c] S = some (.tup (.str w :: d :: r), S) := by
  rw [Fk_s]
  obtain ⟨w1, w2, w3⟩ := hw
  have n2 : ¬ c % 12 < 2 := by omega
  have n3 : ¬ c % 12 = 2 := by omega
  have n4 : ¬ c % 12 = 3 := by omega
  have n5 : ¬ c % 12 = 4 := by omega
  have n6 : ¬ c % 12 = 5 := by omega
  have hl : r.length ≤ 10 := by omega
  have l1 : r.length + 1 + 1 ≤ 16777216 := by omega
  have l2 : 1 + 1 + r.length ≤ 16777216 := by omega
  have l3 : 2 + r.length ≤ 16777216 := by omega
  have l4 : ¬ ((r.length : Int) + 1 + 1 < 3) := by omega
  have ft := in_ft w S
  by_cases h10 : c % 12 < 10
  · simp [bodies, b__law_changed_t1, b__law_changed_t2, b__law_changed_t3, b__law_changed_t4, b__law_changed_t5, b__law_changed_t6, b__law_changed_t7, b__law_changed_t8, b__law_changed_t9, b__law_changed_t10, b__law_changed_t11, b__law_changed_t12, pow12, zEv, List.map_cons, List.map_nil, List.length_cons, List.length_nil, List.cons_append, List.nil_append, List.append_nil, List.getElem?_cons_zero, List.getElem?_cons_succ, List.set_cons_zero, List.set_cons_succ, ofString_inj, ofString_beq, ne_nil0, at0, at1, drop1, n2, n3, n4, n5, n6, h10, ha, cut1, drop2, sizeLine_eq, w1, w2, w3, l1, l2, l3, l4]
  · obtain ⟨w4, w5⟩ := hc.resolve_left h10
    simp [bodies, b__law_changed_t1, b__law_changed_t2, b__law_changed_t3, b__law_changed_t4, b__law_changed_t5, b__law_changed_t6, b__law_changed_t7, b__law_changed_t8, b__law_changed_t9, b__law_changed_t10, b__law_changed_t11, b__law_changed_t12, pow12, zEv, List.map_cons, List.map_nil, List.length_cons, List.length_nil, List.cons_append, List.nil_append, List.append_nil, List.getElem?_cons_zero, List.getElem?_cons_succ, List.set_cons_zero, List.set_cons_succ, ofString_inj, ofString_beq, ne_nil0, at0, at1, drop1, n2, n3, n4, n5, n6, h10, ha, cut1, drop2, sizeLine_eq, w1, w2, w3, l1, l2, l3, l4, ft, w4, w5]
theorem ch_nm (hw : w = "fun" ∨ w = "take") (h : 10 ≤ c % 12) (ha : atI [D.str "", .str "abcdefghi", .str "x_", .str "Xy", .non, .int 4] (c / 12 % 6) = some d) : Fk (k + 1) ._law_changed [.tup [.str w, x, y, z], .tup [], .int c] S = some (.tup [.str w, x, d, z], S) := by
  rw [Fk_s]
  have n2 : ¬ c % 12 < 2 := by omega
  have n3 : ¬ c % 12 = 2 := by omega
  have n4 : ¬ c % 12 = 3 := by omega
  have n5 : ¬ c % 12 = 4 := by omega
  have n6 : ¬ c % 12 = 5 := by omega
  have n7 : ¬ c % 12 < 10 := by omega
  have ft := in_ft w S
  have hq : (decide (w = "fun") || decide (w = "take")) = true := by rcases hw with rfl | rfl <;> simp
  rw [hq] at ft
  have w1 : w ≠ "num" := by rcases hw with rfl | rfl <;> decide +kernel
  have w2 : w ≠ "name" := by rcases hw with rfl | rfl <;> decide +kernel
  have w3 : w ≠ "round" := by rcases hw with rfl | rfl <;> decide +kernel
  simp [bodies, b__law_changed_t1, b__law_changed_t2, b__law_changed_t3, b__law_changed_t4, b__law_changed_t5, b__law_changed_t6, b__law_changed_t7, b__law_changed_t8, b__law_changed_t9, b__law_changed_t10, b__law_changed_t11, b__law_changed_t12, b__law_changed_t13, pow12, zEv, List.map_cons, List.map_nil, List.length_cons, List.length_nil, List.cons_append, List.nil_append, List.append_nil, List.getElem?_cons_zero, List.getElem?_cons_succ, List.set_cons_zero, List.set_cons_succ, ofString_inj, ofString_beq, ne_nil0, at0, at1, drop1, n2, n3, n4, n5, n6, n7, ha, cut2, drop3, sizeLine_eq, w1, w2, w3, ft]
end
theorem atI_all {α : Type} {xs : List α} {i : Int} {Pr : α → Prop} (h0 : 0 ≤ i) (h1 : i < xs.length) (h : ∀ x ∈ xs, Pr x) : ∃ x, atI xs i = some x ∧ Pr x := by
  obtain ⟨x, e, m⟩ := atI_in h0 h1
  exact ⟨x, e, h x m⟩
/-- the form of a part -/
structure FmW (w sh : Str) : Prop where
  l : w.length ≤ 10
  s : ∀ k, 1 ≤ k → ∀ S, Fk k .shape_of [.str w] S = some (.str sh, S)
  n : NoW (w ++ Str.ofString "s")
theorem fmw : FmW "num" "n" ∧ FmW "name" "w" ∧ FmW "fun" "mwp" ∧ FmW "take" "mwp" ∧ FmW "call" "mpp" ∧ FmW "plus" "mpp" ∧ FmW "pick" "mppp" ∧ FmW "round" "p" := by
  refine ⟨⟨by decide +kernel, fun k hk S => (shape_D hk S).1, noW (by refine ⟨?_, ?_, ?_, ?_, ?_, ?_, ?_, ?_⟩ <;> decide +kernel)⟩,
    ⟨by decide +kernel, fun k hk S => (shape_D hk S).2.1, noW (by refine ⟨?_, ?_, ?_, ?_, ?_, ?_, ?_, ?_⟩ <;> decide +kernel)⟩,
    ⟨by decide +kernel, fun k hk S => (shape_D hk S).2.2.1, noW (by refine ⟨?_, ?_, ?_, ?_, ?_, ?_, ?_, ?_⟩ <;> decide +kernel)⟩,
    ⟨by decide +kernel, fun k hk S => (shape_D hk S).2.2.2.1, noW (by refine ⟨?_, ?_, ?_, ?_, ?_, ?_, ?_, ?_⟩ <;> decide +kernel)⟩,
    ⟨by decide +kernel, fun k hk S => (shape_D hk S).2.2.2.2.1, noW (by refine ⟨?_, ?_, ?_, ?_, ?_, ?_, ?_, ?_⟩ <;> decide +kernel)⟩,
    ⟨by decide +kernel, fun k hk S => (shape_D hk S).2.2.2.2.2.1, noW (by refine ⟨?_, ?_, ?_, ?_, ?_, ?_, ?_, ?_⟩ <;> decide +kernel)⟩,
    ⟨by decide +kernel, fun k hk S => (shape_D hk S).2.2.2.2.2.2.1, noW (by refine ⟨?_, ?_, ?_, ?_, ?_, ?_, ?_, ?_⟩ <;> decide +kernel)⟩,
    ⟨by decide +kernel, fun k hk S => (shape_D hk S).2.2.2.2.2.2.2, noW (by refine ⟨?_, ?_, ?_, ?_, ?_, ?_, ?_, ?_⟩ <;> decide +kernel)⟩⟩
/-- the ways below six -/
theorem root_lo {w sh : Str} (F : FmW w sh) {x : D} {r : List D} (hr : r.length ≤ 3) (hs : sh.length = r.length + 1) (hcut : cutD (.str w :: x :: r) none (some (-1)) = .str w :: (x :: r).take r.length) {k : Nat} {c : Int} (h : c % 12 < 6) (S : List O) :
    ∃ d', Fk (k + 1) ._law_changed [.tup (.str w :: x :: r), .tup [], .int c] S = some (d', S) ∧ KZ d' := by
  have h0 : 0 ≤ c % 12 := by omega
  by_cases h2 : c % 12 < 2
  · obtain ⟨d, ha, hk⟩ := atI_all (xs := [D.str (w ++ Str.ofString "s"), .str "Fun", .str "", .non, .int 7, .str "value", .str "shut", .lst [.str "fun"]]) (i := c / 12 % 8) (Pr := fun d => KZ (.tup (d :: x :: r))) (by omega) (by simp; omega) (by
      have hl : (x :: r).length < 1000 := by simp; omega
      intro d hd
      simp only [List.mem_cons, List.not_mem_nil, or_false] at hd
      rcases hd with rfl | rfl | rfl | rfl | rfl | rfl | rfl | rfl
      · exact kz_word hl F.n
      · exact kz_word hl (noW (by refine ⟨?_, ?_, ?_, ?_, ?_, ?_, ?_, ?_⟩ <;> decide +kernel))
      · exact kz_word hl (noW (by refine ⟨?_, ?_, ?_, ?_, ?_, ?_, ?_, ?_⟩ <;> decide +kernel))
      · exact kz_head hl fun S => by simp [isD, tyD]
      · exact kz_head hl fun S => by simp [isD, tyD]
      · exact kz_word hl (noW (by refine ⟨?_, ?_, ?_, ?_, ?_, ?_, ?_, ?_⟩ <;> decide +kernel))
      · exact kz_word hl (noW (by refine ⟨?_, ?_, ?_, ?_, ?_, ?_, ?_, ?_⟩ <;> decide +kernel))
      · exact kz_head hl fun S => by simp [isD, tyD])
    exact ⟨_, ch_w h0 h2 F.l (by omega) ha, hk⟩
  by_cases h3 : c % 12 = 2
  · exact ⟨_, ch_2 h3 (by omega), kz_len F.s (by simp; omega) (by omega) (by simp; omega)⟩
  by_cases h4 : c % 12 = 3
  · refine ⟨_, ch_3 h4, ?_⟩
    rw [hcut]
    exact kz_len F.s (by simp; omega) (by omega) (by simp; omega)
  by_cases h5 : c % 12 = 4
  · exact ⟨_, ch_4 h5 (by omega), kz_lst _⟩
  · have h6 : c % 12 = 5 := by omega
    obtain ⟨d, ha, hk⟩ := atI_all (xs := [D.non, .tup [], .str "name", .int 5, .bl true]) (i := c / 12 % 5) (Pr := KZ) (by omega) (by simp; omega) (by
      intro d hd
      simp only [List.mem_cons, List.not_mem_nil, or_false] at hd
      rcases hd with rfl | rfl | rfl | rfl | rfl
      · exact kz_non
      · exact kz_nil
      · exact kz_str _
      · exact kz_int _
      · exact kz_bl _)
    exact ⟨d, ch_5 h6 ha, hk⟩
theorem bad_mark {i : Int} (h0 : 0 ≤ i) (h1 : i < 5) : ∃ d, atI [D.int 10000, .int (-1), .bl true, .str "1", .non] i = some d ∧ LN "m" d := atI_all h0 (by simpa using h1) (by
  intro d hd
  simp only [List.mem_cons, List.not_mem_nil, or_false] at hd
  rcases hd with rfl | rfl | rfl | rfl | rfl
  · exact ln_mark (by omega)
  · exact ln_mark (by omega)
  · exact ln_whole (.inr rfl) (.inl rfl)
  · exact ln_whole (.inr rfl) (.inr (.inl ⟨_, rfl⟩))
  · exact ln_whole (.inr rfl) (.inr (.inr rfl)))
theorem bad_num {i : Int} (h0 : 0 ≤ i) (h1 : i < 5) : ∃ d, atI [D.int 1000000000000, .int (-1000000000000), .bl true, .str "1", .non] i = some d ∧ LN "n" d := atI_all h0 (by simpa using h1) (by
  intro d hd
  simp only [List.mem_cons, List.not_mem_nil, or_false] at hd
  rcases hd with rfl | rfl | rfl | rfl | rfl
  · exact ln_num (by omega)
  · exact ln_num (by omega)
  · exact ln_whole (.inl rfl) (.inl rfl)
  · exact ln_whole (.inl rfl) (.inr (.inl ⟨_, rfl⟩))
  · exact ln_whole (.inl rfl) (.inr (.inr rfl)))
theorem nn_dec {s : String} (h : (let x := Str.ofString s; (decide (1 ≤ x.length) && decide (x.length ≤ 8) && x.cps.toList.any (fun c => !(decide (97 ≤ c) && decide (c ≤ 122))) && x.cps.toList.all (fun c => decide (c ≤ 200)))) = true) : NN (.str (Str.ofString s)) := by
  simp only [Bool.and_eq_true, decide_eq_true_eq, List.any_eq_true, List.all_eq_true] at h
  obtain ⟨⟨⟨h1, h2⟩, c, hc, h3⟩, h4⟩ := h
  refine nn_sign h1 h2 ⟨c, hc, ?_⟩ h4
  intro q
  simp [q.1, q.2] at h3
theorem nn_X : NN (.str "X") := nn_dec (by decide +kernel)
theorem bad_name {i : Int} (h0 : 0 ≤ i) (h1 : i < 8) : ∃ d, atI [D.str "", .str "abcdefghi", .str "A", .str "a b", .str "a1", .str "a\n", .non, .int 3] i = some d ∧ LN "w" d := atI_all h0 (by simpa using h1) (by
  intro d hd
  simp only [List.mem_cons, List.not_mem_nil, or_false] at hd
  rcases hd with rfl | rfl | rfl | rfl | rfl | rfl | rfl | rfl
  · exact ln_name (nn_len (.inl (by decide +kernel)) (by decide +kernel))
  · exact ln_name (nn_len (.inr (by decide +kernel)) (by decide +kernel))
  · exact ln_name (nn_dec (by decide +kernel))
  · exact ln_name (nn_dec (by decide +kernel))
  · exact ln_name (nn_dec (by decide +kernel))
  · exact ln_name (nn_dec (by decide +kernel))
  · exact ln_name nn_non
  · exact ln_name (nn_int 3))
theorem bad_bound {i : Int} (h0 : 0 ≤ i) (h1 : i < 6) : ∃ d, atI [D.str "", .str "abcdefghi", .str "x_", .str "Xy", .non, .int 4] i = some d ∧ LN "w" d := atI_all h0 (by simpa using h1) (by
  intro d hd
  simp only [List.mem_cons, List.not_mem_nil, or_false] at hd
  rcases hd with rfl | rfl | rfl | rfl | rfl | rfl
  · exact ln_name (nn_len (.inl (by decide +kernel)) (by decide +kernel))
  · exact ln_name (nn_len (.inr (by decide +kernel)) (by decide +kernel))
  · exact ln_name (nn_dec (by decide +kernel))
  · exact ln_name (nn_dec (by decide +kernel))
  · exact ln_name nn_non
  · exact ln_name (nn_int 4))
theorem bad_part {i : Int} (h0 : 0 ≤ i) (h1 : i < 4) : ∃ d, atI [D.tup [.str "num", .int 1000000000000], .tup [.str "name", .str "X"], .non, .lst [.str "num", .int 1]] i = some d ∧ KZ d := atI_all h0 (by simpa using h1) (by
  intro d hd
  simp only [List.mem_cons, List.not_mem_nil, or_false] at hd
  rcases hd with rfl | rfl | rfl | rfl
  · exact kz_num (ln_num (by omega))
  · exact kz_name (ln_name nn_X)
  · exact kz_non
  · exact kz_lst _)
theorem ncut2 (a b : D) : cutD [a, b] none (some (-1)) = a :: [b].take 0 := by simp [cutD, HT.sIx]
theorem ncut4 (a b c d : D) : cutD [a, b, c, d] none (some (-1)) = a :: [b, c, d].take 2 := by simp [cutD, HT.sIx]
theorem ncut5 (a b c d e : D) : cutD [a, b, c, d, e] none (some (-1)) = a :: [b, c, d, e].take 3 := by simp [cutD, HT.sIx]
theorem root_KZ : ∀ (p : Pc) (sc : List Str) (k : Nat) (c : Int) (S : List O), wf p sc → ∃ d', Fk (k + 1) ._law_changed [p.d, .tup [], .int c] S = some (d', S) ∧ KZ d'
  | .num n, sc, k, c, S, hw => by
    simp only [Pc.d]
    by_cases h : c % 12 < 6
    · exact root_lo fmw.1 (by simp) (by decide +kernel) (ncut2 _ _) h S
    · obtain ⟨d, ha, hd⟩ := bad_num (i := c / 12 % 5) (by omega) (by omega)
      exact ⟨_, ch_num (by omega) ha, kz_num hd⟩
  | .name x, sc, k, c, S, hw => by
    simp only [Pc.d]
    by_cases h : c % 12 < 6
    · exact root_lo fmw.2.1 (by simp) (by decide +kernel) (ncut2 _ _) h S
    · obtain ⟨d, ha, hd⟩ := bad_name (i := c / 12 % 8) (by omega) (by omega)
      exact ⟨_, ch_name (by omega) ha, kz_name hd⟩
  | .rnd b, sc, k, c, S, hw => by
    simp only [Pc.d]
    by_cases h : c % 12 < 6
    · exact root_lo fmw.2.2.2.2.2.2.2 (by simp) (by decide +kernel) (ncut2 _ _) h S
    · obtain ⟨d, ha, hd⟩ := bad_part (i := c / 12 % 4) (by omega) (by omega)
      exact ⟨_, ch_rnd (by omega) ha, kz_rnd hd⟩
  | .fn a x b, sc, k, c, S, hw => by
    simp only [Pc.d]
    by_cases h : c % 12 < 6
    · exact root_lo fmw.2.2.1 (by simp) (by rw [len_mwp]; rfl) (ncut4 _ _ _ _) h S
    by_cases h10 : c % 12 < 10
    · obtain ⟨d, ha, hd⟩ := bad_mark (i := c / 12 % 5) (by omega) (by omega)
      exact ⟨_, ch_mark (by refine ⟨?_, ?_, ?_⟩ <;> decide +kernel) (.inl rfl) (by omega) (.inl h10) ha, kz_fun_m hd⟩
    · obtain ⟨d, ha, hd⟩ := bad_bound (i := c / 12 % 6) (by omega) (by omega)
      exact ⟨_, ch_nm (.inl rfl) (by omega) ha, kz_fun_w hw.1 hd⟩
  | .take a x b, sc, k, c, S, hw => by
    simp only [Pc.d]
    by_cases h : c % 12 < 6
    · exact root_lo fmw.2.2.2.1 (by simp) (by rw [len_mwp]; rfl) (ncut4 _ _ _ _) h S
    by_cases h10 : c % 12 < 10
    · obtain ⟨d, ha, hd⟩ := bad_mark (i := c / 12 % 5) (by omega) (by omega)
      exact ⟨_, ch_mark (by refine ⟨?_, ?_, ?_⟩ <;> decide +kernel) (.inl rfl) (by omega) (.inl h10) ha, kz_take_m hd⟩
    · obtain ⟨d, ha, hd⟩ := bad_bound (i := c / 12 % 6) (by omega) (by omega)
      exact ⟨_, ch_nm (.inr rfl) (by omega) ha, kz_take_w hw.1 hd⟩
  | .call a f g, sc, k, c, S, hw => by
    simp only [Pc.d]
    by_cases h : c % 12 < 6
    · exact root_lo fmw.2.2.2.2.1 (by simp) (by rw [len_mpp]; rfl) (ncut4 _ _ _ _) h S
    · obtain ⟨d, ha, hd⟩ := bad_mark (i := c / 12 % 5) (by omega) (by omega)
      exact ⟨_, ch_mark (by refine ⟨?_, ?_, ?_⟩ <;> decide +kernel) (.inl rfl) (by omega) (.inr ⟨by decide +kernel, by decide +kernel⟩) ha, kz_call_m hd⟩
  | .plus a f g, sc, k, c, S, hw => by
    simp only [Pc.d]
    by_cases h : c % 12 < 6
    · exact root_lo fmw.2.2.2.2.2.1 (by simp) (by rw [len_mpp]; rfl) (ncut4 _ _ _ _) h S
    · obtain ⟨d, ha, hd⟩ := bad_mark (i := c / 12 % 5) (by omega) (by omega)
      exact ⟨_, ch_mark (by refine ⟨?_, ?_, ?_⟩ <;> decide +kernel) (.inl rfl) (by omega) (.inr ⟨by decide +kernel, by decide +kernel⟩) ha, kz_plus_m hd⟩
  | .pick a q f g, sc, k, c, S, hw => by
    simp only [Pc.d]
    by_cases h : c % 12 < 6
    · exact root_lo fmw.2.2.2.2.2.2.1 (by simp) (by rw [len_mppp]; rfl) (ncut5 _ _ _ _ _) h S
    · obtain ⟨d, ha, hd⟩ := bad_mark (i := c / 12 % 5) (by omega) (by omega)
      exact ⟨_, ch_mark (by refine ⟨?_, ?_, ?_⟩ <;> decide +kernel) (.inr rfl) (by omega) (.inr ⟨by decide +kernel, by decide +kernel⟩) ha, kz_pick_m hd⟩
  | .shut .., _, _, _, _, h => h.elim
  | .kept .., _, _, _, _, h => h.elim
/-! ## the wrong thing at any part -/
theorem changed_D : ∀ (p : Pc) (sc : List Str) (l : List Int) (k : Nat) (c : Int) (S : List O), wf p sc → l ∈ pls p → l.length + 1 ≤ k → ∃ d', Fk k ._law_changed [p.d, plD l, .int c] S = some (d', S) ∧ KZ d'
  | p, _, _, 0, _, _, _, _, h => by omega
  | p, sc, [], k + 1, c, S, hw, hl, hk => root_KZ p sc k c S hw
  | .num n, sc, i :: l, k + 1, c, S, hw, hl, hk => by simp [pls] at hl
  | .name x, sc, i :: l, k + 1, c, S, hw, hl, hk => by simp [pls] at hl
  | .rnd b, sc, i :: l, k + 1, c, S, hw, hl, hk => by
    simp only [pls, List.mem_cons, List.mem_map, reduceCtorEq, false_or] at hl
    obtain ⟨l', h', e⟩ := hl
    obtain ⟨rfl, rfl⟩ := List.cons.inj e
    obtain ⟨d, ed, kd⟩ := changed_D b sc l' k c S hw h' (by simp at hk; omega)
    refine ⟨_, ?_, kz_rnd kd⟩
    rw [Fk_s]
    have ne := ne_nil (1 :: l') S
    unfold plD at ne ed ⊢
    simp only [List.map_cons, List.isEmpty_cons, Bool.not_false] at ne
    simp [bodies, zEv, List.map_cons, List.map_nil, List.length_cons, List.length_nil, List.cons_append, List.nil_append, List.append_nil, List.getElem?_cons_zero, List.getElem?_cons_succ, List.set_cons_zero, List.set_cons_succ, ofString_inj, ofString_beq, Pc.d, ne, at0, at1, drop1, ed, cut1, drop2, sizeLine_eq]
  | .fn a x b, sc, i :: l, k + 1, c, S, hw, hl, hk => by
    simp only [pls, List.mem_cons, List.mem_map, reduceCtorEq, false_or] at hl
    obtain ⟨l', h', e⟩ := hl
    · obtain ⟨rfl, rfl⟩ := List.cons.inj e
      obtain ⟨d, ed, kd⟩ := changed_D b _ l' k c S hw.2.2 h' (by simp at hk; omega)
      refine ⟨_, ?_, kz_fun_p hw.1 hw.2.1 kd⟩
      rw [Fk_s]
      have ne := ne_nil (3 :: l') S
      unfold plD at ne ed ⊢
      simp only [List.map_cons, List.isEmpty_cons, Bool.not_false] at ne
      simp [bodies, zEv, List.map_cons, List.map_nil, List.length_cons, List.length_nil, List.cons_append, List.nil_append, List.append_nil, List.getElem?_cons_zero, List.getElem?_cons_succ, List.set_cons_zero, List.set_cons_succ, ofString_inj, ofString_beq, Pc.d, ne, at0, at1, at2, at3, at4, drop1, ed, cut3, drop4, sizeLine_eq]
  | .take a x b, sc, i :: l, k + 1, c, S, hw, hl, hk => by
    simp only [pls, List.mem_cons, List.mem_map, reduceCtorEq, false_or] at hl
    obtain ⟨l', h', e⟩ := hl
    · obtain ⟨rfl, rfl⟩ := List.cons.inj e
      obtain ⟨d, ed, kd⟩ := changed_D b _ l' k c S hw.2.2 h' (by simp at hk; omega)
      refine ⟨_, ?_, kz_take_p hw.1 hw.2.1 kd⟩
      rw [Fk_s]
      have ne := ne_nil (3 :: l') S
      unfold plD at ne ed ⊢
      simp only [List.map_cons, List.isEmpty_cons, Bool.not_false] at ne
      simp [bodies, zEv, List.map_cons, List.map_nil, List.length_cons, List.length_nil, List.cons_append, List.nil_append, List.append_nil, List.getElem?_cons_zero, List.getElem?_cons_succ, List.set_cons_zero, List.set_cons_succ, ofString_inj, ofString_beq, Pc.d, ne, at0, at1, at2, at3, at4, drop1, ed, cut3, drop4, sizeLine_eq]
  | .call a f g, sc, i :: l, k + 1, c, S, hw, hl, hk => by
    simp only [pls, List.mem_cons, List.mem_append, List.mem_map, reduceCtorEq, false_or] at hl
    rcases hl with ⟨l', h', e⟩ | ⟨l', h', e⟩
    · obtain ⟨rfl, rfl⟩ := List.cons.inj e
      obtain ⟨d, ed, kd⟩ := changed_D f _ l' k c S hw.2.1 h' (by simp at hk; omega)
      refine ⟨_, ?_, kz_call_2 (g := g.d) hw.1 kd⟩
      rw [Fk_s]
      have ne := ne_nil (2 :: l') S
      unfold plD at ne ed ⊢
      simp only [List.map_cons, List.isEmpty_cons, Bool.not_false] at ne
      simp [bodies, zEv, List.map_cons, List.map_nil, List.length_cons, List.length_nil, List.cons_append, List.nil_append, List.append_nil, List.getElem?_cons_zero, List.getElem?_cons_succ, List.set_cons_zero, List.set_cons_succ, ofString_inj, ofString_beq, Pc.d, ne, at0, at1, at2, at3, at4, drop1, ed, cut2, drop3, sizeLine_eq]
    · obtain ⟨rfl, rfl⟩ := List.cons.inj e
      obtain ⟨d, ed, kd⟩ := changed_D g _ l' k c S hw.2.2 h' (by simp at hk; omega)
      refine ⟨_, ?_, kz_call_3 hw.1 hw.2.1 kd⟩
      rw [Fk_s]
      have ne := ne_nil (3 :: l') S
      unfold plD at ne ed ⊢
      simp only [List.map_cons, List.isEmpty_cons, Bool.not_false] at ne
      simp [bodies, zEv, List.map_cons, List.map_nil, List.length_cons, List.length_nil, List.cons_append, List.nil_append, List.append_nil, List.getElem?_cons_zero, List.getElem?_cons_succ, List.set_cons_zero, List.set_cons_succ, ofString_inj, ofString_beq, Pc.d, ne, at0, at1, at2, at3, at4, drop1, ed, cut3, drop4, sizeLine_eq]
  | .plus a f g, sc, i :: l, k + 1, c, S, hw, hl, hk => by
    simp only [pls, List.mem_cons, List.mem_append, List.mem_map, reduceCtorEq, false_or] at hl
    rcases hl with ⟨l', h', e⟩ | ⟨l', h', e⟩
    · obtain ⟨rfl, rfl⟩ := List.cons.inj e
      obtain ⟨d, ed, kd⟩ := changed_D f _ l' k c S hw.2.1 h' (by simp at hk; omega)
      refine ⟨_, ?_, kz_plus_2 (g := g.d) hw.1 kd⟩
      rw [Fk_s]
      have ne := ne_nil (2 :: l') S
      unfold plD at ne ed ⊢
      simp only [List.map_cons, List.isEmpty_cons, Bool.not_false] at ne
      simp [bodies, zEv, List.map_cons, List.map_nil, List.length_cons, List.length_nil, List.cons_append, List.nil_append, List.append_nil, List.getElem?_cons_zero, List.getElem?_cons_succ, List.set_cons_zero, List.set_cons_succ, ofString_inj, ofString_beq, Pc.d, ne, at0, at1, at2, at3, at4, drop1, ed, cut2, drop3, sizeLine_eq]
    · obtain ⟨rfl, rfl⟩ := List.cons.inj e
      obtain ⟨d, ed, kd⟩ := changed_D g _ l' k c S hw.2.2 h' (by simp at hk; omega)
      refine ⟨_, ?_, kz_plus_3 hw.1 hw.2.1 kd⟩
      rw [Fk_s]
      have ne := ne_nil (3 :: l') S
      unfold plD at ne ed ⊢
      simp only [List.map_cons, List.isEmpty_cons, Bool.not_false] at ne
      simp [bodies, zEv, List.map_cons, List.map_nil, List.length_cons, List.length_nil, List.cons_append, List.nil_append, List.append_nil, List.getElem?_cons_zero, List.getElem?_cons_succ, List.set_cons_zero, List.set_cons_succ, ofString_inj, ofString_beq, Pc.d, ne, at0, at1, at2, at3, at4, drop1, ed, cut3, drop4, sizeLine_eq]
  | .pick a q f g, sc, i :: l, k + 1, c, S, hw, hl, hk => by
    simp only [pls, List.mem_cons, List.mem_append, List.mem_map, reduceCtorEq, false_or] at hl
    rcases hl with ⟨l', h', e⟩ | ⟨l', h', e⟩ | ⟨l', h', e⟩
    · obtain ⟨rfl, rfl⟩ := List.cons.inj e
      obtain ⟨d, ed, kd⟩ := changed_D q _ l' k c S hw.2.1 h' (by simp at hk; omega)
      refine ⟨_, ?_, kz_pick_2 (f := f.d) (g := g.d) hw.1 kd⟩
      rw [Fk_s]
      have ne := ne_nil (2 :: l') S
      unfold plD at ne ed ⊢
      simp only [List.map_cons, List.isEmpty_cons, Bool.not_false] at ne
      simp [bodies, zEv, List.map_cons, List.map_nil, List.length_cons, List.length_nil, List.cons_append, List.nil_append, List.append_nil, List.getElem?_cons_zero, List.getElem?_cons_succ, List.set_cons_zero, List.set_cons_succ, ofString_inj, ofString_beq, Pc.d, ne, at0, at1, at2, at3, at4, drop1, ed, cut2, drop3, sizeLine_eq]
    · obtain ⟨rfl, rfl⟩ := List.cons.inj e
      obtain ⟨d, ed, kd⟩ := changed_D f _ l' k c S hw.2.2.1 h' (by simp at hk; omega)
      refine ⟨_, ?_, kz_pick_3 (g := g.d) hw.1 hw.2.1 kd⟩
      rw [Fk_s]
      have ne := ne_nil (3 :: l') S
      unfold plD at ne ed ⊢
      simp only [List.map_cons, List.isEmpty_cons, Bool.not_false] at ne
      simp [bodies, zEv, List.map_cons, List.map_nil, List.length_cons, List.length_nil, List.cons_append, List.nil_append, List.append_nil, List.getElem?_cons_zero, List.getElem?_cons_succ, List.set_cons_zero, List.set_cons_succ, ofString_inj, ofString_beq, Pc.d, ne, at0, at1, at2, at3, at4, drop1, ed, cut3, drop4, sizeLine_eq]
    · obtain ⟨rfl, rfl⟩ := List.cons.inj e
      obtain ⟨d, ed, kd⟩ := changed_D g _ l' k c S hw.2.2.2 h' (by simp at hk; omega)
      refine ⟨_, ?_, kz_pick_4 hw.1 hw.2.1 hw.2.2.1 kd⟩
      rw [Fk_s]
      have ne := ne_nil (4 :: l') S
      unfold plD at ne ed ⊢
      simp only [List.map_cons, List.isEmpty_cons, Bool.not_false] at ne
      simp [bodies, zEv, List.map_cons, List.map_nil, List.length_cons, List.length_nil, List.cons_append, List.nil_append, List.append_nil, List.getElem?_cons_zero, List.getElem?_cons_succ, List.set_cons_zero, List.set_cons_succ, ofString_inj, ofString_beq, Pc.d, ne, at0, at1, at2, at3, at4, drop1, ed, cut4, drop5, sizeLine_eq]
  | .shut .., _, _, _, _, _, h, _, _ => h.elim
  | .kept .., _, _, _, _, _, h, _, _ => h.elim
/-! ## what is told -/
theorem strs_lay {l : List Str} (h : ∀ x ∈ l, nmOk x) : PyData.canLayAll0 (pyL (l.map D.str)) = true := by
  induction l with
  | nil => rfl
  | cons x sc ih =>
    simp only [List.map_cons, pyL, py, PyData.canLayAll0, PyData.canLay0, Bool.and_eq_true]
    exact ⟨nm_strOk (h x List.mem_cons_self), ih fun y hy => h y (List.mem_cons_of_mem _ hy)⟩
theorem eq_names {l : List Str} (h : ∀ x ∈ l, nmOk x) (S : List O) : dEq 64 (.lst (l.map D.str)) (.lst []) S = some (.bl l.isEmpty) := by
  unfold dEq dEqv
  simp only [pyS, py, PyData.canLay0, strs_lay h, pyL, PyData.canLayAll0, PyData.depth, PyData.depthAll]
  rw [if_pos ⟨trivial, trivial, by omega⟩]
  cases l <;> simp [PyData.eqv, PyData.eqvAll, pyL]
theorem strs_depth : ∀ l : List Str, PyData.depthAll (pyL (l.map D.str)) ≤ 1
  | [] => by simp [pyL, PyData.depthAll]
  | x :: r => by
    have := strs_depth r
    simp only [List.map_cons, pyL, py, PyData.depthAll, PyData.depth]
    omega
theorem ne_same {l : List Str} (h : ∀ x ∈ l, nmOk x) (S : List O) : dNe 64 (.lst (l.map D.str)) (.lst (l.map D.str)) S = some (.bl false) := by
  have c : (py (.lst (l.map D.str))).canLay0 = true := by simp only [py, PyData.canLay0]; exact strs_lay h
  have hd := strs_depth l
  unfold dNe dEqv
  simp only [pyS, py, PyData.canLay0, strs_lay h, PyData.depth]
  rw [if_pos ⟨trivial, trivial, by omega⟩]
  have := SeqAt.eqv_refl _ c
  simp only [py] at this
  rw [this]
  rfl
theorem told_D {k : Nat} {d : D} {g : Bool} {names : List Str} (hn : ∀ x ∈ names, nmOk x) {S : List O} (h1 : Fk k .is_closed [d] S = some (.bl (g && names.isEmpty), S)) (h2 : Fk k .is_piece [d] S = some (.bl g, S)) : Fk (k + 1) ._law_told [d, .bl g, .lst (names.map .str)] S = some (.bl true, S) := by
  rw [Fk_s]
  have e := eq_names hn S
  cases g with
  | false =>
    simp only [Bool.false_and] at h1
    simp [bodies, b__law_told_t1, b__law_told_t2, b__law_told_t3, zEv, List.map_cons, List.map_nil, List.length_cons, List.length_nil, List.cons_append, List.nil_append, List.append_nil, List.getElem?_cons_zero, List.getElem?_cons_succ, List.set_cons_zero, List.set_cons_succ, ofString_inj, ofString_beq, h1, h2, isD, tyD]
  | true =>
    simp only [Bool.true_and] at h1
    simp [bodies, b__law_told_t1, b__law_told_t2, b__law_told_t3, zEv, List.map_cons, List.map_nil, List.length_cons, List.length_nil, List.cons_append, List.nil_append, List.append_nil, List.getElem?_cons_zero, List.getElem?_cons_succ, List.set_cons_zero, List.set_cons_succ, ofString_inj, ofString_beq, h1, h2, isD, tyD, e]
theorem isp_K {p : Pc} {sc : List Str} (hw : wf p sc) {k : Nat} (hk : 40 ≤ k) (S : List O) : Fk k .is_piece [p.d] S = some (.bl (decide (cd p ≤ 30 ∧ kn p ≤ 300)), S) := by
  obtain ⟨k, rfl⟩ : ∃ j, k = j + 1 := ⟨k - 1, by omega⟩
  have e := knots_K p sc k 30 S hw (by omega)
  have kp := kn_pos p
  have e30 : ((30 : Nat) : Int) = 30 := rfl
  rw [e30] at e
  rw [Fk_s]
  rcases kf_or p 30 with ⟨q, h⟩ | ⟨q, h⟩
  · rw [q] at e
    have k1 : 0 < kn p := by omega
    rw [decide_eq_true h]
    simp [bodies, zEv, List.map_cons, List.map_nil, List.length_cons, List.length_nil, List.cons_append, List.nil_append, List.append_nil, List.getElem?_cons_zero, List.getElem?_cons_succ, List.set_cons_zero, List.set_cons_succ, ofString_inj, ofString_beq, e, k1]
  · rw [q] at e
    rw [decide_eq_false h]
    simp [bodies, zEv, List.map_cons, List.map_nil, List.length_cons, List.length_nil, List.cons_append, List.nil_append, List.append_nil, List.getElem?_cons_zero, List.getElem?_cons_succ, List.set_cons_zero, List.set_cons_succ, ofString_inj, ofString_beq, e]
theorem isc_K {p : Pc} (hw : wf p []) {k : Nat} (hk : 45 ≤ k) (S : List O) (ok : okS S) : Fk k .is_closed [p.d] S = some (.bl (decide (cd p ≤ 30 ∧ kn p ≤ 300)), S) := by
  by_cases h : cd p ≤ 30 ∧ kn p ≤ 300
  · rw [decide_eq_true h]
    exact is_closed_D p S ok hw h.1 h.2 (by omega)
  · rw [decide_eq_false h]
    obtain ⟨k, rfl⟩ : ∃ j, k = j + 1 := ⟨k - 1, by omega⟩
    have e := isp_K hw (by omega : 40 ≤ k) S
    rw [decide_eq_false h] at e
    rw [Fk_s]
    simp [bodies, zEv, List.map_cons, List.map_nil, List.length_cons, List.length_nil, List.cons_append, List.nil_append, List.append_nil, List.getElem?_cons_zero, List.getElem?_cons_succ, List.set_cons_zero, List.set_cons_succ, ofString_inj, ofString_beq, e]
theorem told_K {p : Pc} (hw : wf p []) {k : Nat} (hk : 50 ≤ k) (S : List O) (ok : okS S) (b : Bool) (hb : decide (cd p ≤ 30 ∧ kn p ≤ 300) = b) : Fk k ._law_told [p.d, .bl b, .lst []] S = some (.bl true, S) := by
  obtain ⟨k, rfl⟩ : ∃ j, k = j + 1 := ⟨k - 1, by omega⟩
  subst hb
  exact told_D (names := []) (by simp) (by rw [isc_K hw (by omega) S ok]; simp) (isp_K hw (by omega) S)
theorem told_Z {d : D} (h : KZ d) {k : Nat} (hk : 50 ≤ k) (S : List O) : Fk k ._law_told [d, .bl false, .lst []] S = some (.bl true, S) := by
  obtain ⟨k, rfl⟩ : ∃ j, k = j + 1 := ⟨k - 1, by omega⟩
  have e1 : ∀ j, 40 ≤ j → Fk j .is_piece [d] S = some (.bl false, S) := fun j hj => by
    obtain ⟨j, rfl⟩ : ∃ i, j = i + 1 := ⟨j - 1, by omega⟩
    have e := h 30 j (by omega) S
    have e30 : ((30 : Nat) : Int) = 30 := rfl
    rw [e30] at e
    rw [Fk_s]
    simp [bodies, zEv, List.map_cons, List.map_nil, List.length_cons, List.length_nil, List.cons_append, List.nil_append, List.append_nil, List.getElem?_cons_zero, List.getElem?_cons_succ, List.set_cons_zero, List.set_cons_succ, ofString_inj, ofString_beq, e]
  have e2 : Fk k .is_closed [d] S = some (.bl false, S) := by
    obtain ⟨k, rfl⟩ : ∃ i, k = i + 1 := ⟨k - 1, by omega⟩
    have e := e1 k (by omega)
    rw [Fk_s]
    simp [bodies, zEv, List.map_cons, List.map_nil, List.length_cons, List.length_nil, List.cons_append, List.nil_append, List.append_nil, List.getElem?_cons_zero, List.getElem?_cons_succ, List.set_cons_zero, List.set_cons_succ, ofString_inj, ofString_beq, e]
  exact told_D (names := []) (by simp) (by simpa using e2) (e1 k (by omega))
/-! ## the great ones -/
/-- twice, and twice that -/
def tw (c : Int) : Nat → Pc
  | 0 => .num (c % 9)
  | i + 1 => if i % 2 = 0 then .plus 1 (tw c i) (tw c i) else .pick 2 (tw c i) (.num 1) (tw c i)
theorem tw_wf (c : Int) : ∀ n, wf (tw c n) []
  | 0 => by simp only [tw, wf]; omega
  | n + 1 => by
    have ih := tw_wf c n
    simp only [tw]
    split
    · exact ⟨⟨by omega, by omega⟩, ih, ih⟩
    · exact ⟨⟨by omega, by omega⟩, ih, by simp [wf], ih⟩
theorem tw_kn (c : Int) : ∀ n, 2 ^ n ≤ kn (tw c n)
  | 0 => by simp [tw, kn]
  | n + 1 => by
    have ih := tw_kn c n
    have e : 2 ^ (n + 1) = 2 * 2 ^ n := Nat.pow_succ'
    simp only [tw]
    split <;> (simp only [kn]; omega)
def twB : B := (sSet 2 (eOp dIx (eL (lDisp (aCons (eTup (aCons (eC (.str "plus")) (aCons (eC (.int 1)) (aCons (eVar 2) (aCons (eVar 2) aNil))))) (aCons (eTup (aCons (eC (.str "pick")) (aCons (eC (.int 2)) (aCons (eVar 2) (aCons (eTup (aCons (eC (.str "num")) (aCons (eC (.int 1)) aNil))) (aCons (eVar 2) aNil)))))) aNil)))) (eOp (dInt gMod) (eVar 5) (eC (.int 2)))))
theorem tw_loop (c : Int) (d0 : D) (S : List O) : ∀ (m i : Nat) (z : Option D), ∃ z', forD (gdName 5) twB ((List.range' i m).map fun j : Nat => D.int (j : Int)) [some d0, none, some (tw c i).d, none, none, z, none] S = some (.nx [some d0, none, some (tw c (i + m)).d, none, none, z', none] S)
  | 0, i, z => ⟨z, by simp [zEv, List.map_cons, List.map_nil, List.length_cons, List.length_nil, List.cons_append, List.nil_append, List.append_nil, List.getElem?_cons_zero, List.getElem?_cons_succ, List.set_cons_zero, List.set_cons_succ, ofString_inj, ofString_beq]⟩
  | m + 1, i, z => by
    obtain ⟨z', ih⟩ := tw_loop c d0 S m (i + 1) (some (.int (i : Nat)))
    refine ⟨z', ?_⟩
    have e : i + 1 + m = i + (m + 1) := by omega
    rw [e] at ih
    rw [List.range'_succ, List.map_cons, forD_c, gdName_u, forK2_1]
    have hm : (i : Int) % 2 = 0 ∨ (i : Int) % 2 = 1 := by omega
    rcases hm with h | h
    · have hn : i % 2 = 0 := by omega
      have et : (tw c (i + 1)).d = .tup [.str "plus", .int 1, (tw c i).d, (tw c i).d] := by simp [tw, hn, Pc.d]
      rw [et] at ih
      unfold twB at ih ⊢
      simp [zEv, List.map_cons, List.map_nil, List.length_cons, List.length_nil, List.cons_append, List.nil_append, List.append_nil, List.getElem?_cons_zero, List.getElem?_cons_succ, List.set_cons_zero, List.set_cons_succ, ofString_inj, ofString_beq, h, at0, ih]
    · have hn : ¬ i % 2 = 0 := by omega
      have et : (tw c (i + 1)).d = .tup [.str "pick", .int 2, (tw c i).d, .tup [.str "num", .int 1], (tw c i).d] := by simp [tw, hn, Pc.d]
      rw [et] at ih
      unfold twB at ih ⊢
      simp [zEv, List.map_cons, List.map_nil, List.length_cons, List.length_nil, List.cons_append, List.nil_append, List.append_nil, List.getElem?_cons_zero, List.getElem?_cons_succ, List.set_cons_zero, List.set_cons_succ, ofString_inj, ofString_beq, h, at1, ih]
/-- one within the other -/
def chn (c : Int) : Nat → Pc
  | 0 => .num (c % 9)
  | i + 1 => if c % 2 = 0 then .rnd (chn c i) else .fn (i : Nat) "x" (chn c i)
theorem nmx : nmOk "x" := by
  have e : (Str.ofString "x").cps.toList = [120] := by decide +kernel
  have l : (Str.ofString "x").length = 1 := by decide +kernel
  refine ⟨by omega, by omega, fun c hc => ?_⟩
  rw [e] at hc; simp at hc; omega
theorem chn_wf (c : Int) : ∀ n sc, n ≤ 1000 → wf (chn c n) sc
  | 0, sc, _ => by simp only [chn, wf]; omega
  | n + 1, sc, h => by
    simp only [chn]
    split
    · exact chn_wf c n sc (by omega)
    · exact ⟨⟨by omega, by omega⟩, nmx, chn_wf c n _ (by omega)⟩
theorem chn_cd (c : Int) : ∀ n, cd (chn c n) = n + 1 ∧ kn (chn c n) = n + 1
  | 0 => by simp [chn, cd, kn]
  | n + 1 => by
    have ih := chn_cd c n
    simp only [chn]
    split <;> (simp only [cd, kn]; omega)
def chB : B := (sSet 2 (eOp dIx (eL (lDisp (aCons (eTup (aCons (eC (.str "round")) (aCons (eVar 2) aNil))) (aCons (eTup (aCons (eC (.str "fun")) (aCons (eVar 5) (aCons (eC (.str "x")) (aCons (eVar 2) aNil))))) aNil)))) (eOp (dInt gMod) (eVar 0) (eC (.int 2)))))
theorem ch_loop (c : Int) (d1 : D) (S : List O) : ∀ (m i : Nat) (z : Option D), ∃ z', forD (gdName 5) chB ((List.range' i m).map fun j : Nat => D.int (j : Int)) [some (.int c), some d1, some (chn c i).d, none, none, z, none] S = some (.nx [some (.int c), some d1, some (chn c (i + m)).d, none, none, z', none] S)
  | 0, i, z => ⟨z, by simp [zEv, List.map_cons, List.map_nil, List.length_cons, List.length_nil, List.cons_append, List.nil_append, List.append_nil, List.getElem?_cons_zero, List.getElem?_cons_succ, List.set_cons_zero, List.set_cons_succ, ofString_inj, ofString_beq]⟩
  | m + 1, i, z => by
    obtain ⟨z', ih⟩ := ch_loop c d1 S m (i + 1) (some (.int (i : Nat)))
    refine ⟨z', ?_⟩
    have e : i + 1 + m = i + (m + 1) := by omega
    rw [e] at ih
    rw [List.range'_succ, List.map_cons, forD_c, gdName_u, forK2_1]
    have hm : c % 2 = 0 ∨ c % 2 = 1 := by omega
    rcases hm with h | h
    · have et : (chn c (i + 1)).d = .tup [.str "round", (chn c i).d] := by simp [chn, h, Pc.d]
      rw [et] at ih
      unfold chB at ih ⊢
      simp [zEv, List.map_cons, List.map_nil, List.length_cons, List.length_nil, List.cons_append, List.nil_append, List.append_nil, List.getElem?_cons_zero, List.getElem?_cons_succ, List.set_cons_zero, List.set_cons_succ, ofString_inj, ofString_beq, h, at0, ih]
    · have et : (chn c (i + 1)).d = .tup [.str "fun", .int (i : Nat), .str "x", (chn c i).d] := by simp [chn, h, Pc.d]
      rw [et] at ih
      unfold chB at ih ⊢
      simp [zEv, List.map_cons, List.map_nil, List.length_cons, List.length_nil, List.cons_append, List.nil_append, List.append_nil, List.getElem?_cons_zero, List.getElem?_cons_succ, List.set_cons_zero, List.set_cons_succ, ofString_inj, ofString_beq, h, at1, ih]
/-! pairs -/
def pairs : List Pc → List Pc
  | a :: b :: r => .plus 1 a b :: pairs r
  | _ => []
def rest : List Pc → List Pc
  | _ :: _ :: r => rest r
  | r => r
def sumK : List Pc → Nat
  | [] => 0
  | p :: r => kn p + sumK r
theorem sumK_app : ∀ a b : List Pc, sumK (a ++ b) = sumK a + sumK b
  | [], b => by simp [sumK]
  | p :: r, b => by have := sumK_app r b; simp only [List.cons_append, sumK]; omega
theorem pairs_len : ∀ ps : List Pc, (pairs ps).length = ps.length / 2 ∧ (rest ps).length = ps.length % 2 ∧ sumK (pairs ps) + (pairs ps).length + sumK (rest ps) + (rest ps).length = sumK ps + ps.length
  | [] => by simp [pairs, rest, sumK]
  | [a] => by simp [pairs, rest, sumK]
  | a :: b :: r => by
    obtain ⟨h1, h2, h3⟩ := pairs_len r
    simp only [pairs, rest, sumK, kn, List.length_cons]
    omega
theorem pairs_ok {D : Nat} : ∀ ps : List Pc, (∀ p ∈ ps, wf p [] ∧ cd p ≤ D) → ∀ p ∈ pairs ps ++ rest ps, wf p [] ∧ cd p ≤ D + 1
  | [], _, p, hp => by simp [pairs, rest] at hp
  | [a], h, p, hp => by
    simp [pairs, rest] at hp
    subst hp
    have := h p List.mem_cons_self
    exact ⟨this.1, by omega⟩
  | a :: b :: r, h, p, hp => by
    simp only [pairs, rest, List.cons_append, List.mem_cons] at hp
    rcases hp with rfl | hp
    · have ha := h a (by simp)
      have hb := h b (by simp)
      exact ⟨⟨⟨by omega, by omega⟩, ha.1, hb.1⟩, by simp only [cd]; omega⟩
    · exact pairs_ok r (fun q hq => h q (by simp [hq])) p hp
theorem rest_drop : ∀ ps : List Pc, ps.drop (2 * (ps.length / 2)) = rest ps
  | [] => rfl
  | [a] => by simp [rest]
  | a :: b :: r => by
    have := rest_drop r
    have e : 2 * ((a :: b :: r).length / 2) = 2 * (r.length / 2) + 2 := by simp only [List.length_cons]; omega
    rw [e]
    simp only [List.drop_succ_cons, rest]
    exact this
theorem pairs_lc (R : List D) (d0 : D) (z1 z2 z6 : Option D) (S : List O) : ∀ (ps : List Pc) (j : Nat), R.drop (2 * j) = ps.map Pc.d → lcD (gdName 5) tTrue (eTup (aCons (eC (.str "plus")) (aCons (eC (.int 1)) (aCons (eOp dIx (eVar 3) (eVar 5)) (aCons (eOp dIx (eVar 3) (eOp dAdd (eVar 5) (eC (.int 1)))) aNil)))))
    [some d0, z1, z2, some (.lst R), none, none, z6] ((List.range' j (ps.length / 2)).map fun q : Nat => D.int (0 + (q : Nat) * 2)) S = some ((pairs ps).map Pc.d, S)
  | [], j, h => by simp [pairs]; rfl
  | [a], j, h => by simp [pairs]; rfl
  | a :: b :: r, j, h => by
    have h0 : R[2 * j]? = some a.d := by
      have := congrArg (fun l : List D => l[0]?) h
      simpa using this
    have h1 : R[2 * j + 1]? = some b.d := by
      have := congrArg (fun l : List D => l[1]?) h
      simpa using this
    have h2 : R.drop (2 * (j + 1)) = r.map Pc.d := by
      have := congrArg (fun l : List D => l.drop 2) h
      simpa [List.drop_drop, Nat.mul_add] using this
    have ih := pairs_lc R d0 z1 z2 z6 S r (j + 1) h2
    have el : (a :: b :: r).length / 2 = r.length / 2 + 1 := by simp only [List.length_cons]; omega
    have a0 : atI R ((j : Int) * 2) = some a.d := by
      have e : (j : Int) * 2 = ((2 * j : Nat) : Int) := by omega
      rw [e]; exact atI_nat h0
    have a1 : atI R ((j : Int) * 2 + 1) = some b.d := by
      have e : (j : Int) * 2 + 1 = ((2 * j + 1 : Nat) : Int) := by omega
      rw [e]; exact atI_nat h1
    simp only [Int.zero_add] at ih
    rw [el, List.range'_succ, List.map_cons, lcD_c]
    simp [zEv, List.map_cons, List.map_nil, List.length_cons, List.length_nil, List.cons_append, List.nil_append, List.append_nil, List.getElem?_cons_zero, List.getElem?_cons_succ, List.set_cons_zero, List.set_cons_succ, ofString_inj, ofString_beq, a0, a1, ih, pairs, Pc.d]
def rowC : T := tOf (eOp (dCmp fun i j => decide (i > j)) (eBi bLen (aCons (eVar 3) aNil)) (eC (.int 1)))
def rowB : B := (sSeq (sSet 6 (eL (aLc (iRange3 (aCons (eC (.int 0)) (aCons (eOp (dInt gSub) (eBi bLen (aCons (eVar 3) aNil)) (eC (.int 1))) (aCons (eC (.int 2)) aNil)))) (gdName 5) tTrue (eTup (aCons (eC (.str "plus")) (aCons (eC (.int 1)) (aCons (eOp dIx (eVar 3) (eVar 5)) (aCons (eOp dIx (eVar 3) (eOp dAdd (eVar 5) (eC (.int 1)))) aNil))))) [5])))
  (sSet 3 (eOp dAdd (eVar 6) (eSlice (eVar 3) (ptS (eOp dMul (eC (.int 2)) (eBi bLen (aCons (eVar 6) aNil)))) ptN))))
theorem range2_is (n : Nat) (h : 1 ≤ n) : range2D ((n : Int) - 1) = (List.range' 0 (n / 2)).map fun q : Nat => D.int (0 + (q : Nat) * 2) := by
  unfold range2D
  have e : (((n : Int) - 1 + 1) / 2).toNat = n / 2 := by omega
  rw [e, List.range_eq_range']
theorem iRange3_1 {g : A} {δ : Sl} {S S1 : List O} {j : Int} (h : g δ S = some ([.int 0, .int j, .int 2], S1)) (h0 : 0 ≤ j) (h1 : j < 1048576) : iRange3 g δ S = some (range2D j, S1) := by
  unfold iRange3
  rw [h, Option.bind_some]
  simp only
  rw [if_pos ⟨trivial, trivial, h0, h1⟩]
theorem row_step (c : Int) (S : List O) (z1 z2 z5 z6 : Option D) (ps : List Pc) (h : 2 ≤ ps.length) (hl : ps.length ≤ 1000) : rowB [some (.int c), z1, z2, some (.lst (ps.map Pc.d)), none, z5, z6] S = some (.nx [some (.int c), z1, z2, some (.lst ((pairs ps ++ rest ps).map Pc.d)), none, z5, some (.lst ((pairs ps).map Pc.d))] S) := by
  obtain ⟨p1, p2, p3⟩ := pairs_len ps
  have lc := pairs_lc (ps.map Pc.d) (.int c) z1 z2 z6 S ps 0 (by simp)
  have er := range2_is ps.length (by omega)
  have ri : iRange3 (aCons (eC (.int 0)) (aCons (eOp (dInt gSub) (eBi bLen (aCons (eVar 3) aNil)) (eC (.int 1))) (aCons (eC (.int 2)) aNil))) [some (.int c), z1, z2, some (.lst (ps.map Pc.d)), none, z5, z6] S = some (range2D ((ps.length : Int) - 1), S) := by
    refine iRange3_1 ?_ (by omega) (by omega)
    simp [zEv, List.map_cons, List.map_nil, List.length_cons, List.length_nil, List.cons_append, List.nil_append, List.append_nil, List.getElem?_cons_zero, List.getElem?_cons_succ, List.set_cons_zero, List.set_cons_succ, ofString_inj, ofString_beq]
  rw [er] at ri
  have l1 : (List.range' 0 (ps.length / 2)).length ≤ 10000000 := by simp; omega
  have cut : cutD (ps.map Pc.d) (some (2 * ((pairs ps).length : Int))) none = (rest ps).map Pc.d := by
    rw [p1]
    have e : (2 * ((ps.length / 2 : Nat) : Int)) = ((2 * (ps.length / 2) : Nat) : Int) := by omega
    rw [e, cut_drop, ← rest_drop, List.map_drop]
  have l2 : (pairs ps).length + (rest ps).length ≤ 16777216 := by omega
  have l3 : ps.length / 2 ≤ 10000000 := by omega
  unfold rowB
  simp only [Int.zero_add] at lc ri
  simp [zEv, List.map_cons, List.map_nil, List.length_cons, List.length_nil, List.cons_append, List.nil_append, List.append_nil, List.getElem?_cons_zero, List.getElem?_cons_succ, List.set_cons_zero, List.set_cons_succ, ofString_inj, ofString_beq, ri, lc, l1, l3, l2, cut, sizeLine_eq]
theorem row_loop (c : Int) (S : List O) (z1 z2 : Option D) : ∀ (t : Nat) (ps : List Pc) (dd fu : Nat) (z5 z6 : Option D), ps ≠ [] → ps.length ≤ 2 ^ t → ps.length ≤ 1000 → (∀ p ∈ ps, wf p [] ∧ cd p ≤ dd) → t + 1 ≤ fu →
    ∃ q z6', whD rowC rowB fu [some (.int c), z1, z2, some (.lst (ps.map Pc.d)), none, z5, z6] S = some (.nx [some (.int c), z1, z2, some (.lst [q.d]), none, z5, z6'] S) ∧ wf q [] ∧ cd q ≤ dd + t ∧ kn q + 1 = sumK ps + ps.length
  | t, ps, dd, 0, z5, z6, _, _, _, _, h => by omega
  | 0, ps, dd, fu + 1, z5, z6, ne, hl, h1, hp, hf => by
    match ps, ne, hl with
    | [q], _, _ =>
      refine ⟨q, z6, ?_, (hp q (by simp)).1, by have := (hp q (by simp)).2; omega, by simp [sumK]⟩
      unfold whD
      simp [rowC, zEv, List.map_cons, List.map_nil, List.length_cons, List.length_nil, List.cons_append, List.nil_append, List.append_nil, List.getElem?_cons_zero, List.getElem?_cons_succ, List.set_cons_zero, List.set_cons_succ, ofString_inj, ofString_beq]
    | [], ne, _ => exact absurd rfl ne
    | a :: b :: r, _, hl => simp at hl
  | t + 1, ps, dd, fu + 1, z5, z6, ne, hl, h1, hp, hf => by
    by_cases hs : ps.length = 1
    · match ps, hs with
      | [q], _ =>
        refine ⟨q, z6, ?_, (hp q (by simp)).1, by have := (hp q (by simp)).2; omega, by simp [sumK]⟩
        unfold whD
        simp [rowC, zEv, List.map_cons, List.map_nil, List.length_cons, List.length_nil, List.cons_append, List.nil_append, List.append_nil, List.getElem?_cons_zero, List.getElem?_cons_succ, List.set_cons_zero, List.set_cons_succ, ofString_inj, ofString_beq]
    · have h2 : 2 ≤ ps.length := by
        have : ps.length ≠ 0 := fun e => ne (List.eq_nil_of_length_eq_zero e)
        omega
      obtain ⟨p1, p2, p3⟩ := pairs_len ps
      have e2 : 2 ^ (t + 1) = 2 * 2 ^ t := Nat.pow_succ'
      have hlen : (pairs ps ++ rest ps).length = ps.length / 2 + ps.length % 2 := by rw [List.length_append, p1, p2]
      obtain ⟨q, z6', ih, q1, q2, q3⟩ := row_loop c S z1 z2 t (pairs ps ++ rest ps) (dd + 1) fu z5 (some (.lst ((pairs ps).map Pc.d))) (fun e => by rw [e] at hlen; simp at hlen; omega) (by rw [hlen]; omega) (by rw [hlen]; omega) (pairs_ok ps hp) (by omega)
      refine ⟨q, z6', ?_, q1, by omega, by rw [q3, sumK_app, List.length_append]; omega⟩
      have es := row_step c S z1 z2 z5 z6 ps h2 h1
      have hgt : (1 : Int) < (ps.length : Int) := by omega
      have hgt2 : 1 < ps.length := by omega
      have ec : rowC [some (.int c), z1, z2, some (.lst (ps.map Pc.d)), none, z5, z6] S = some (true, S) := by
        unfold rowC
        simp [zEv, List.map_cons, List.map_nil, List.length_cons, List.length_nil, List.cons_append, List.nil_append, List.append_nil, List.getElem?_cons_zero, List.getElem?_cons_succ, List.set_cons_zero, List.set_cons_succ, ofString_inj, ofString_beq, hgt, hgt2]
      unfold whD
      simp only [ec, Option.bind_some, if_true, es]
      exact ih
theorem sWhile_u {c : T} {b : B} {δ : Sl} {S : List O} : sWhile c b δ S = whD c b big δ S := id rfl
theorem rangeD_r (n : Nat) : rangeD 0 (n : Int) = (List.range' 0 n).map fun j : Nat => D.int (j : Int) := by
  unfold rangeD
  have : ((n : Int) - 0).toNat = n := by omega
  rw [this, List.range_eq_range']
  congr 1
  funext i
  simp
theorem great_tw {k : Nat} (hk : 55 ≤ k) (c : Int) (S : List O) (ok : okS S) (h : c / 256 % 4 = 1) : b__law_great (Fk k) [some (.int c), none, none, none, none, none, none] S = some (.rt (.bl true) S) := by
  obtain ⟨n, en, hn⟩ : ∃ n : Nat, 10 + c / 1024 % 70 = (n : Int) ∧ 10 ≤ n ∧ n ≤ 79 := ⟨(10 + c / 1024 % 70).toNat, by omega, by omega, by omega⟩
  obtain ⟨z', lp⟩ := tw_loop c (.int c) S n 0 none
  rw [← rangeD_r, Nat.zero_add] at lp
  have et : (tw c 0).d = .tup [.str "num", .int (c % 9)] := by simp [tw, Pc.d]
  rw [et] at lp
  have hk2 := tw_kn c n
  have h10 : 2 ^ 10 ≤ 2 ^ n := Nat.pow_le_pow_right (by omega) hn.1
  have told := told_K (tw_wf c n) (by omega : 50 ≤ k) S ok false (decide_eq_false fun q => by have := q.2; omega)
  have b1 : (n : Int) < 4611686018427387904 := by omega
  have b2 : (-4611686018427387904 : Int) ≤ n := by omega
  unfold twB at lp
  simp [zEv, List.map_cons, List.map_nil, List.length_cons, List.length_nil, List.cons_append, List.nil_append, List.append_nil, List.getElem?_cons_zero, List.getElem?_cons_succ, List.set_cons_zero, List.set_cons_succ, ofString_inj, ofString_beq, h, en, b1, b2, lp, told]
theorem great_1 {k : Nat} (c : Int) (S : List O) (h : ¬ c / 256 % 4 = 1) : ∃ m : Nat, m ≤ 77 ∧ b__law_great (Fk k) [some (.int c), none, none, none, none, none, none] S = b__law_great_t4 (Fk k) [some (.int c), some (.int (m : Nat)), some (.tup [.str "num", .int (c % 9)]), none, none, none, none] S := by
  by_cases h16 : c / 16 % 4 = 1
  · obtain ⟨n, en, hn⟩ : ∃ n : Nat, 28 + c / 64 % 50 = (n : Int) ∧ n ≤ 77 := ⟨(28 + c / 64 % 50).toNat, by omega, by omega⟩
    exact ⟨n, hn, by simp [b__law_great_t1, b__law_great_t2, b__law_great_t3, zEv, List.map_cons, List.map_nil, List.length_cons, List.length_nil, List.cons_append, List.nil_append, List.append_nil, List.getElem?_cons_zero, List.getElem?_cons_succ, List.set_cons_zero, List.set_cons_succ, ofString_inj, ofString_beq, h, h16, en]⟩
  · obtain ⟨n, en, hn⟩ : ∃ n : Nat, 28 + c / 4 % 4 = (n : Int) ∧ n ≤ 77 := ⟨(28 + c / 4 % 4).toNat, by omega, by omega⟩
    exact ⟨n, hn, by simp [b__law_great_t1, b__law_great_t2, b__law_great_t3, zEv, List.map_cons, List.map_nil, List.length_cons, List.length_nil, List.cons_append, List.nil_append, List.append_nil, List.getElem?_cons_zero, List.getElem?_cons_succ, List.set_cons_zero, List.set_cons_succ, ofString_inj, ofString_beq, h, h16, en]⟩
theorem great_ch {k : Nat} (hk : 55 ≤ k) (c : Int) (m : Nat) (hm : m ≤ 77) (S : List O) (ok : okS S) (h : c % 4 < 2) : b__law_great_t4 (Fk k) [some (.int c), some (.int (m : Nat)), some (.tup [.str "num", .int (c % 9)]), none, none, none, none] S = some (.rt (.bl true) S) := by
  obtain ⟨z', lp⟩ := ch_loop c (.int (m : Nat)) S m 0 none
  rw [← rangeD_r, Nat.zero_add] at lp
  have et : (chn c 0).d = .tup [.str "num", .int (c % 9)] := by simp [chn, Pc.d]
  rw [et] at lp
  obtain ⟨c1, c2⟩ := chn_cd c m
  have told := told_K (chn_wf c m [] (by omega)) (by omega : 50 ≤ k) S ok (decide ((m : Int) < 30)) (by rw [c1, c2]; exact decide_eq_decide.mpr (by omega))
  have b1 : (m : Int) < 4611686018427387904 := by omega
  have b2 : (-4611686018427387904 : Int) ≤ m := by omega
  unfold chB at lp
  simp [b__law_great_t4, zEv, List.map_cons, List.map_nil, List.length_cons, List.length_nil, List.cons_append, List.nil_append, List.append_nil, List.getElem?_cons_zero, List.getElem?_cons_succ, List.set_cons_zero, List.set_cons_succ, ofString_inj, ofString_beq, h, b1, b2, lp, told]
def nums (n : Nat) : List Pc := (List.range n).map fun i : Nat => Pc.num (i : Int)
theorem sumK_one : ∀ ps : List Pc, (∀ p ∈ ps, kn p = 1) → sumK ps = ps.length
  | [], _ => rfl
  | p :: r, h => by
    have h1 := h p List.mem_cons_self
    have h2 := sumK_one r fun q hq => h q (List.mem_cons_of_mem _ hq)
    simp only [sumK, List.length_cons]; omega
theorem great_row {k : Nat} (hk : 55 ≤ k) (c : Int) (m : Nat) (d2 : D) (S : List O) (ok : okS S) (h : ¬ c % 4 < 2) : b__law_great_t4 (Fk k) [some (.int c), some (.int (m : Nat)), some d2, none, none, none, none] S = some (.rt (.bl true) S) := by
  obtain ⟨n, en, hn⟩ : ∃ n : Nat, 150 - c / 4 % 2 = (n : Int) ∧ 149 ≤ n ∧ n ≤ 150 := ⟨(150 - c / 4 % 2).toNat, by omega, by omega, by omega⟩
  have hl : (nums n).length = n := by simp [nums]
  have hp : ∀ p ∈ nums n, (wf p [] ∧ cd p ≤ 1) ∧ kn p = 1 := fun p hp => by
    obtain ⟨i, hi, rfl⟩ := List.mem_map.mp hp
    have := List.mem_range.mp hi
    exact ⟨⟨⟨by omega, by omega⟩, by simp [cd]⟩, by simp [kn]⟩
  have hs := sumK_one (nums n) fun p q => (hp p q).2
  obtain ⟨q, z6', lp, qw, qc, qk⟩ := row_loop c S (some (.int (m : Nat))) (some d2) 8 (nums n) 1 big none none (fun e => by rw [e] at hl; simp at hl; omega) (by rw [hl]; omega) (by rw [hl]; omega) (fun p q => (hp p q).1) (by unfold big; omega)
  rw [hs, hl] at qk
  have lc : lcD (gdName 5) tTrue (eTup (aCons (eC (.str "num")) (aCons (eVar 5) aNil))) [some (.int c), some (.int (m : Nat)), some d2, none, none, none, none] (rangeD 0 (n : Int)) S = some ((nums n).map Pc.d, S) := by
    have e := lcD_map (gd := gdName 5) (c := tTrue) (e := eTup (aCons (eC (.str "num")) (aCons (eVar 5) aNil))) (δ := [some (.int c), some (.int (m : Nat)), some d2, none, none, none, none]) (S := S) (ds := rangeD 0 (n : Int)) (fun d => .tup [.str "num", d]) (fun d hd => ⟨_, rfl, rfl, by simp [zEv, List.map_cons, List.map_nil, List.length_cons, List.length_nil, List.cons_append, List.nil_append, List.append_nil, List.getElem?_cons_zero, List.getElem?_cons_succ, List.set_cons_zero, List.set_cons_succ, ofString_inj, ofString_beq]⟩)
    rw [e, rangeD_r, ← List.range_eq_range']
    simp [nums, Pc.d]
  have b1 : (n : Int) < 4611686018427387904 := by omega
  have b2 : (-4611686018427387904 : Int) ≤ n := by omega
  have b3 : n ≤ 10000000 := by omega
  have st : b__law_great_t4 (Fk k) [some (.int c), some (.int (m : Nat)), some d2, none, none, none, none] S = b__law_great_t7 (Fk k) [some (.int c), some (.int (m : Nat)), some d2, some (.lst [q.d]), none, none, z6'] S := by
    unfold rowC rowB at lp
    simp [b__law_great_t4, b__law_great_t5, b__law_great_t6, zEv, List.map_cons, List.map_nil, List.length_cons, List.length_nil, List.cons_append, List.nil_append, List.append_nil, List.getElem?_cons_zero, List.getElem?_cons_succ, List.set_cons_zero, List.set_cons_succ, ofString_inj, ofString_beq, h, en, b1, b2, b3, lc, rangeD_len, sWhile_u, lp]
  rw [st]
  have fin : ∀ (q2 : Pc) (kk : Int), wf q2 [] → cd q2 ≤ 20 → (kn q2 : Int) = kk → 299 - 2 * (c / 4 % 2) + c / 8 % 2 + c / 16 % 2 = kk → b__law_great_t9 (Fk k) [some (.int c), some (.int (m : Nat)), some d2, some (.lst [q2.d]), none, none, z6'] S = some (.rt (.bl true) S) := fun q2 kk w1 w2 w3 w4 => by
    have told := told_K w1 (by omega : 50 ≤ k) S ok (decide (kk < 301)) (decide_eq_decide.mpr (by omega))
    simp [b__law_great_t9, b__law_great_t10, zEv, List.map_cons, List.map_nil, List.length_cons, List.length_nil, List.cons_append, List.nil_append, List.append_nil, List.getElem?_cons_zero, List.getElem?_cons_succ, List.set_cons_zero, List.set_cons_succ, ofString_inj, ofString_beq, w4, at0, told]
  have kn0 : (kn q : Int) = 299 - 2 * (c / 4 % 2) := by omega
  have a8 : c / 8 % 2 = 0 ∨ c / 8 % 2 = 1 := by omega
  have a16 : c / 16 % 2 = 0 ∨ c / 16 % 2 = 1 := by omega
  rcases a8 with e8 | e8 <;> rcases a16 with e16 | e16
  · have f := fin q _ qw (by omega) rfl (by omega)
    simp [b__law_great_t7, b__law_great_t8, zEv, List.map_cons, List.map_nil, List.length_cons, List.length_nil, List.cons_append, List.nil_append, List.append_nil, List.getElem?_cons_zero, List.getElem?_cons_succ, List.set_cons_zero, List.set_cons_succ, ofString_inj, ofString_beq, e8, e16, f]
  · have f := fin (.rnd q) _ qw (by simp only [cd]; omega) rfl (by simp only [kn]; omega)
    simp only [Pc.d] at f
    simp [b__law_great_t7, b__law_great_t8, zEv, List.map_cons, List.map_nil, List.length_cons, List.length_nil, List.cons_append, List.nil_append, List.append_nil, List.getElem?_cons_zero, List.getElem?_cons_succ, List.set_cons_zero, List.set_cons_succ, ofString_inj, ofString_beq, e8, e16, at0, f]
  · have f := fin (.rnd q) _ qw (by simp only [cd]; omega) rfl (by simp only [kn]; omega)
    simp only [Pc.d] at f
    simp [b__law_great_t7, b__law_great_t8, zEv, List.map_cons, List.map_nil, List.length_cons, List.length_nil, List.cons_append, List.nil_append, List.append_nil, List.getElem?_cons_zero, List.getElem?_cons_succ, List.set_cons_zero, List.set_cons_succ, ofString_inj, ofString_beq, e8, e16, at0, f]
  · have f := fin (.rnd (.rnd q)) _ qw (by simp only [cd]; omega) rfl (by simp only [kn]; omega)
    simp only [Pc.d] at f
    simp [b__law_great_t7, b__law_great_t8, zEv, List.map_cons, List.map_nil, List.length_cons, List.length_nil, List.cons_append, List.nil_append, List.append_nil, List.getElem?_cons_zero, List.getElem?_cons_succ, List.set_cons_zero, List.set_cons_succ, ofString_inj, ofString_beq, e8, e16, at0, f]
theorem great_D {k : Nat} (hk : 60 ≤ k) (c : Int) (S : List O) (ok : okS S) : Fk k ._law_great [.int c] S = some (.bl true, S) := by
  obtain ⟨k, rfl⟩ : ∃ j, k = j + 1 := ⟨k - 1, by omega⟩
  have body : b__law_great (Fk k) [some (.int c), none, none, none, none, none, none] S = some (.rt (.bl true) S) := by
    by_cases h : c / 256 % 4 = 1
    · exact great_tw (by omega) c S ok h
    · obtain ⟨m, hm, e⟩ := great_1 (k := k) c S h
      rw [e]
      by_cases h2 : c % 4 < 2
      · exact great_ch (by omega) c m hm S ok h2
      · exact great_row (by omega) c m _ S ok h2
  rw [Fk_s]
  show gcFn (fnD 7 (b__law_great (Fk k))) _ _ = _
  rw [gcFn_u, fnD_u]
  simp only [List.map_cons, List.map_nil, List.length_cons, List.length_nil, List.cons_append, List.nil_append]
  rw [show List.replicate (7 - (0 + 1)) none = ([none, none, none, none, none, none] : Sl) from rfl, body, fnK_1, gcK_1]
  exact gc_same (Nat.le_refl _)
theorem isc_N {p : Pc} {sc : List Str} (hw : wf p sc) (hc : cd p ≤ 30) (hn : kn p ≤ 300) (h64 : (fvs [] p []).length < 64) (hs : ∀ x ∈ sortS (fvs [] p []), nmOk x) {k : Nat} (hk : 60 ≤ k) (S : List O) (ok : okS S) : Fk k .is_closed [p.d] S = some (.bl (sortS (fvs [] p [])).isEmpty, S) := by
  obtain ⟨k, rfl⟩ : ∃ j, k = j + 1 := ⟨k - 1, by omega⟩
  have e := isp_K hw (by omega : 40 ≤ k) S
  rw [decide_eq_true ⟨hc, hn⟩] at e
  have f := free_D (k := k) p sc S ok hw hn (by omega) (by omega) h64
  have q := eq_names hs S
  rw [Fk_s]
  simp [bodies, zEv, List.map_cons, List.map_nil, List.length_cons, List.length_nil, List.cons_append, List.nil_append, List.append_nil, List.getElem?_cons_zero, List.getElem?_cons_succ, List.set_cons_zero, List.set_cons_succ, ofString_inj, ofString_beq, e, f, q]
theorem more_loop {k : Nat} (hk : 1 ≤ k) (c : Int) (S : List O) (d0 d2 : D) (sc : List Str) : ∀ (l : List Nat) (p : Pc) (z : Option D), (∀ i ∈ l, i < 100) → wf p sc → ∃ p' z', forD (gdName 4) (sSet 3 (eTup (aCons (eC (.str "plus")) (aCons (eCall 1 (Fk k ._law_mark_by) (aCons (eOp dAdd (eVar 1) (eVar 4)) aNil)) (aCons (eTup (aCons (eC (.str "num")) (aCons (eVar 4) aNil))) (aCons (eVar 3) aNil))))))
    (l.map fun i : Nat => D.int (i : Int)) [some d0, some (.int c), some d2, some p.d, z, none, none, none, none, none] S = some (.nx [some d0, some (.int c), some d2, some p'.d, z', none, none, none, none, none] S) ∧ wf p' sc ∧ cd p' ≤ cd p + l.length ∧ kn p' ≤ kn p + 2 * l.length
  | [], p, z, _, hw => ⟨p, z, by simp [zEv, List.map_cons, List.map_nil, List.length_cons, List.length_nil, List.cons_append, List.nil_append, List.append_nil, List.getElem?_cons_zero, List.getElem?_cons_succ, List.set_cons_zero, List.set_cons_succ, ofString_inj, ofString_beq], hw, by simp, by simp⟩
  | i :: l, p, z, hl, hw => by
    have hi := hl i List.mem_cons_self
    obtain ⟨a, ea, a0, a1⟩ := mark_D (k := k) hk (c + (i : Nat)) S
    obtain ⟨p', z', ih, h1, h2, h3⟩ := more_loop hk c S d0 d2 sc l (.plus a (.num (i : Nat)) p) (some (.int (i : Nat))) (fun j hj => hl j (List.mem_cons_of_mem _ hj)) ⟨⟨a0, a1⟩, ⟨by omega, by omega⟩, hw⟩
    have hcd := cd_pos p
    refine ⟨p', z', ?_, h1, by simp only [cd, List.length_cons] at h2 ⊢; omega, by simp only [kn, List.length_cons] at h3 ⊢; omega⟩
    simp only [Pc.d] at ih
    rw [List.map_cons, forD_c, gdName_u, forK2_1]
    simp [zEv, List.map_cons, List.map_nil, List.length_cons, List.length_nil, List.cons_append, List.nil_append, List.append_nil, List.getElem?_cons_zero, List.getElem?_cons_succ, List.set_cons_zero, List.set_cons_succ, ofString_inj, ofString_beq, ea, ih]
theorem law_end (ns : List Int) (c : Int) (scD : D) (p : Pc) (sc : List Str) (z4 : Option D) (S : List O) (ok : okS S) (hw : wf p sc) (hc : cd p ≤ 30) (hn : kn p ≤ 300) (hsc : sc.length ≤ 3) (hnm : ∀ x ∈ sc, nmOk x) :
    b_law_t4 (Fk 230) [some (.scr ns), some (.int c), some scD, some p.d, z4, none, none, none, none, none] S = some (.rt (.bl true) S) := by
  have hfs : ∀ y ∈ fvs [] p [], y ∈ sc := fun y hy => by
    rcases fvs_mem p sc [] [] hw y hy with q | q
    · simp at q
    · exact q.1
  have h64 : (fvs [] p []).length < 64 := by
    have := List.Nodup.length_le_of_subset (fvs_nodup p [] [] List.nodup_nil) (l₂ := sc) hfs
    omega
  have hs : ∀ x ∈ sortS (fvs [] p []), nmOk x := fun x hx => hnm x (hfs x ((sortS_perm _).mem_iff.mp hx))
  have edue : sortS (dedS (lf p)) = sortS (fvs [] p []) := (sortS_same (due_is p)).symm
  have hd64 : (dedS (lf p)).length < 64 := by rw [← (due_is p).length_eq]; exact h64
  have hlf := lf_len p
  have e1 := lawfree_D p sc 230 S hw (by omega) (by omega)
  have e2 : blSS [.lst ((lf p).map .str)] S = some ((sortS (fvs [] p [])).map .str) := by
    unfold blSS
    simp only [seqL_l, Option.bind_some, strL_map]
    rw [if_pos ⟨by omega, hd64⟩, edue]
  have e3 := free_D (k := 230) p sc S ok hw hn (by omega) (by omega) h64
  have e4 := ne_same hs S
  have e5 : Fk 230 ._law_told [p.d, .bl true, .lst ((sortS (fvs [] p [])).map .str)] S = some (.bl true, S) := by
    refine told_D (k := 229) hs ?_ ?_
    · rw [Bool.true_and]; exact isc_N hw hc hn h64 hs (by omega) S ok
    · have := isp_K hw (by omega : 40 ≤ 229) S
      rwa [decide_eq_true ⟨hc, hn⟩] at this
  generalize sortS (fvs [] p []) = due at e2 e3 e4 e5
  have st : b_law_t4 (Fk 230) [some (.scr ns), some (.int c), some scD, some p.d, z4, none, none, none, none, none] S = b_law_t7 (Fk 230) [some (.scr ns), some (.int c), some scD, some p.d, z4, some (.lst (due.map .str)), some (.lst (due.map .str)), none, none, none] S := by
    simp [b_law_t4, b_law_t5, b_law_t6, zEv, List.map_cons, List.map_nil, List.length_cons, List.length_nil, List.cons_append, List.nil_append, List.append_nil, List.getElem?_cons_zero, List.getElem?_cons_succ, List.set_cons_zero, List.set_cons_succ, ofString_inj, ofString_beq, e1, e2, e3, e4, e5, isD, tyD]
  rw [st]
  have ec := cell_D (k := 230) (by decide) ns 2 (by decide) S
  by_cases h : cell ns 2 % 3 = 0
  · have em := mixed_D (k := 230) (by decide) (cell ns 2) S
    have eg := great_D (k := 230) (by omega) (mixed (cell ns 2) / 3 % 100000) S ok
    simp [b_law_t7, zEv, List.map_cons, List.map_nil, List.length_cons, List.length_nil, List.cons_append, List.nil_append, List.append_nil, List.getElem?_cons_zero, List.getElem?_cons_succ, List.set_cons_zero, List.set_cons_succ, ofString_inj, ofString_beq, ec, h, em, eg]
  · have ec3 := cell_D (k := 230) (by decide) ns 3 (by decide) S
    have em := mixed_D (k := 230) (by decide) (cell ns 3) S
    generalize mixed (cell ns 3) = m at em
    have ep := places_D p sc 230 S hw (by omega) (by omega) (by omega)
    have hpl := pls_len p
    have hp0 : 1 ≤ (pls p).length := by cases p <;> simp [pls]
    obtain ⟨l, hl, hm⟩ := atI_in (xs := pls p) (i := m % ((pls p).length : Int)) (Int.emod_nonneg _ (by omega)) (Int.emod_lt_of_pos _ (by omega))
    have hix : atI ((pls p).map plD) (m % ((pls p).length : Int)) = some (plD l) := by rw [atI_map, hl]; rfl
    have hdeep := pls_deep p l hm
    obtain ⟨d', ed, kz⟩ := changed_D p sc l 230 (m / 300 + 7919 * (m % 300)) S hw hm (by omega)
    have et := told_Z kz (by omega : 50 ≤ 230) S
    have z0 : ¬ ((pls p).length : Int) = 0 := by omega
    have z1 : 0 < (pls p).length := by omega
    have z3 : (0 : Int) < ((pls p).length : Int) := by omega
    have z2 : ¬ pls p = [] := fun e => by rw [e] at hp0; simp at hp0
    simp [b_law_t7, b_law_t8, b_law_t9, b_law_t10, b_law_t11, zEv, List.map_cons, List.map_nil, List.length_cons, List.length_nil, List.cons_append, List.nil_append, List.append_nil, List.getElem?_cons_zero, List.getElem?_cons_succ, List.set_cons_zero, List.set_cons_succ, ofString_inj, ofString_beq, ec, h, ec3, em, ep, hix, ed, et, z0, z1, z2, z3]
theorem law_true (ns : List Int) (hns : ns.length ≤ 63) : ∃ S, fnD 10 (b_law (Fk 230)) [.scr ns] [] = some (.bl true, S) := by
  have ok0 : okS [] := by unfold okS; rfl
  have ec0 := cell_D (k := 230) (by decide) ns 0 (by decide) []
  have em0 := mixed_D (k := 230) (by decide) (cell ns 0) []
  generalize mixed (cell ns 0) = c at em0
  have ec1 := cell_D (k := 230) (by decide) ns 1 (by decide) []
  obtain ⟨n, en, hn⟩ : ∃ n : Nat, c % 2 * 3 = (n : Int) ∧ n ≤ 3 := ⟨(c % 2 * 3).toNat, by omega, by omega⟩
  have hx : ∀ i : Int, ∃ x, Fk 230 ._law_name_by [.int (mixed (cell ns 1 + i))] [] = some (.str x, []) ∧ nmOk x := fun i => name_D (k := 230) (by decide) _ []
  obtain ⟨f, hf⟩ : ∃ f : Int → Str, ∀ i, Fk 230 ._law_name_by [.int (mixed (cell ns 1 + i))] [] = some (.str (f i), []) ∧ nmOk (f i) := ⟨fun i => (hx i).choose, fun i => (hx i).choose_spec⟩
  have lc : lcD (gdName 4) tTrue (eCall 1 (Fk 230 ._law_name_by) (aCons (eCall 1 (Fk 230 ._law_mixed) (aCons (eOp dAdd (eCall 2 (Fk 230 ._law_cell_at) (aCons (eVar 0) (aCons (eC (.int 1)) aNil))) (eVar 4)) aNil)) aNil))
      [some (.scr ns), some (.int c), none, none, none, none, none, none, none, none] (rangeD 0 (n : Int)) [] = some (((List.range' 0 n).map fun i : Nat => f (i : Int)).map D.str, []) := by
    have e := lcD_map (gd := gdName 4) (c := tTrue) (e := eCall 1 (Fk 230 ._law_name_by) (aCons (eCall 1 (Fk 230 ._law_mixed) (aCons (eOp dAdd (eCall 2 (Fk 230 ._law_cell_at) (aCons (eVar 0) (aCons (eC (.int 1)) aNil))) (eVar 4)) aNil)) aNil))
      (δ := [some (.scr ns), some (.int c), none, none, none, none, none, none, none, none]) (S := []) (ds := rangeD 0 (n : Int)) (fun d => match d with | .int i => .str (f i) | _ => .non) (fun d hd => by
        rw [rangeD_r] at hd
        obtain ⟨i, _, rfl⟩ := List.mem_map.mp hd
        have em := mixed_D (k := 230) (by decide) (cell ns 1 + (i : Nat)) []
        refine ⟨_, rfl, rfl, ?_⟩
        simp [zEv, List.map_cons, List.map_nil, List.length_cons, List.length_nil, List.cons_append, List.nil_append, List.append_nil, List.getElem?_cons_zero, List.getElem?_cons_succ, List.set_cons_zero, List.set_cons_succ, ofString_inj, ofString_beq, ec1, em, (hf (i : Nat)).1])
    rw [e, rangeD_r]
    simp
  generalize hsc : ((List.range' 0 n).map fun i : Nat => f (i : Int)) = sc at lc
  have hnm : ∀ x ∈ sc, nmOk x := fun x hx => by
    rw [← hsc] at hx
    obtain ⟨i, _, rfl⟩ := List.mem_map.mp hx
    exact (hf _).2
  have hln : sc.length = n := by rw [← hsc]; simp
  have b1 : (n : Int) < 4611686018427387904 := by omega
  have b2 : (-4611686018427387904 : Int) ≤ n := by omega
  have b3 : n ≤ 10000000 := by omega
  obtain ⟨p, s', eq, h1, hw, hcd, hkn⟩ := (made_all 230).1 ns ([] ++ [.lst [.int 4]]) ([] : List O).length (1 + c / 2 % 7) 4 sc (by simp) (okS_new ok0 4) (by omega) (by omega) hnm (by omega) (by omega)
  rw [StS_new, StS_new] at eq
  unfold sD at eq
  simp only [List.nil_append, List.length_nil] at eq
  have ok1 : okS [O.lst [.int s']] := okS_new ok0 s'
  have hm : ∃ m : Nat, atI [D.int 0, .int 0, .int 1, .int 18] (c / 14 % 4) = some (.int m) ∧ m ≤ 18 := by
    have : c / 14 % 4 = 0 ∨ c / 14 % 4 = 1 ∨ c / 14 % 4 = 2 ∨ c / 14 % 4 = 3 := by omega
    rcases this with h | h | h | h <;> rw [h]
    · exact ⟨0, atI_nat (j := 0) rfl, by decide⟩
    · exact ⟨0, atI_nat (j := 1) rfl, by decide⟩
    · exact ⟨1, atI_nat (j := 2) rfl, by decide⟩
    · exact ⟨18, atI_nat (j := 3) rfl, by decide⟩
  obtain ⟨m, em, hm⟩ := hm
  obtain ⟨r, z', lp, rw', rc, rk⟩ := more_loop (k := 230) (by decide) c [.lst [.int s']] (.scr ns) (.lst (sc.map D.str)) sc (List.range' 0 m) p none (fun i hi => by simp at hi; omega) hw
  rw [List.length_range'] at rc rk
  rw [← rangeD_r] at lp
  have b4 : (m : Int) < 4611686018427387904 := by omega
  have b5 : (-4611686018427387904 : Int) ≤ m := by omega
  have fin := law_end ns c (.lst (sc.map D.str)) r sc z' [.lst [.int s']] ok1 rw' (by omega) (by omega) (by omega) hnm
  refine ⟨[.lst [.int s']], ?_⟩
  rw [fnD_u]
  simp only [List.map_cons, List.map_nil, List.length_cons, List.length_nil, List.cons_append, List.nil_append]
  rw [show List.replicate (10 - (0 + 1)) none = ([none, none, none, none, none, none, none, none, none] : Sl) from rfl]
  simp [b_law_t1, b_law_t2, b_law_t3, zEv, List.map_cons, List.map_nil, List.length_cons, List.length_nil, List.cons_append, List.nil_append, List.append_nil, List.getElem?_cons_zero, List.getElem?_cons_succ, List.set_cons_zero, List.set_cons_succ, ofString_inj, ofString_beq, ec0, em0, en, b1, b2, b3, b4, b5, lc, rangeD_len, eq, em, lp, fin]
section
variable {P : Program} {w : World} {K : PySem.W.Frag} {mg : Str → Option Value} {base : Heap} {C : Addr}
structure DefOk (K : PySem.W.Frag) (mg : Str → Option Value) (x : Str) (st : Stmt) (ps : List Str) (f : Addr) (fd : FuncData) : Prop where
  F : L2.Fun K x x st f fd
  B : Binds K fd ps []
  M : mg x = some (.ref f)
theorem all_ok {a_is_whole : Addr} {d_is_whole : FuncData} (h_is_whole : DefOk K mg "is_whole" s_is_whole ["thing"] a_is_whole d_is_whole) {a_is_name : Addr} {d_is_name : FuncData} (h_is_name : DefOk K mg "is_name" s_is_name ["thing"] a_is_name d_is_name) {a_is_mark : Addr} {d_is_mark : FuncData} (h_is_mark : DefOk K mg "is_mark" s_is_mark ["thing"] a_is_mark d_is_mark) {a_is_number : Addr} {d_is_number : FuncData} (h_is_number : DefOk K mg "is_number" s_is_number ["thing"] a_is_number d_is_number) {a_shape_of : Addr} {d_shape_of : FuncData} (h_shape_of : DefOk K mg "shape_of" s_shape_of ["word"] a_shape_of d_shape_of) {a_is_leaf_part : Addr} {d_is_leaf_part : FuncData} (h_is_leaf_part : DefOk K mg "is_leaf_part" s_is_leaf_part ["sign", "thing"] a_is_leaf_part d_is_leaf_part) {a_knots_if : Addr} {d_knots_if : FuncData} (h_knots_if : DefOk K mg "knots_if" s_knots_if ["thing", "left"] a_knots_if d_knots_if) {a_is_piece : Addr} {d_is_piece : FuncData} (h_is_piece : DefOk K mg "is_piece" s_is_piece ["thing"] a_is_piece d_is_piece) {a_note_free : Addr} {d_note_free : FuncData} (h_note_free : DefOk K mg "note_free" s_note_free ["piece", "bound", "found"] a_note_free d_note_free) {a_free_names : Addr} {d_free_names : FuncData} (h_free_names : DefOk K mg "free_names" s_free_names ["piece"] a_free_names d_free_names) {a_is_closed : Addr} {d_is_closed : FuncData} (h_is_closed : DefOk K mg "is_closed" s_is_closed ["thing"] a_is_closed d_is_closed) {a__law_cell_at : Addr} {d__law_cell_at : FuncData} (h__law_cell_at : DefOk K mg "_law_cell_at" s__law_cell_at ["_law_script", "_law_k"] a__law_cell_at d__law_cell_at) {a__law_mixed : Addr} {d__law_mixed : FuncData} (h__law_mixed : DefOk K mg "_law_mixed" s__law_mixed ["_law_number"] a__law_mixed d__law_mixed) {a__law_name_by : Addr} {d__law_name_by : FuncData} (h__law_name_by : DefOk K mg "_law_name_by" s__law_name_by ["_law_mix"] a__law_name_by d__law_name_by) {a__law_mark_by : Addr} {d__law_mark_by : FuncData} (h__law_mark_by : DefOk K mg "_law_mark_by" s__law_mark_by ["_law_mix"] a__law_mark_by d__law_mark_by) {a__law_leaf : Addr} {d__law_leaf : FuncData} (h__law_leaf : DefOk K mg "_law_leaf" s__law_leaf ["_law_mix", "_law_scope"] a__law_leaf d__law_leaf) {a__law_gone_on : Addr} {d__law_gone_on : FuncData} (h__law_gone_on : DefOk K mg "_law_gone_on" s__law_gone_on ["_law_script", "_law_state", "_law_deep", "_law_scope"] a__law_gone_on d__law_gone_on) {a__law_made : Addr} {d__law_made : FuncData} (h__law_made : DefOk K mg "_law_made" s__law_made ["_law_script", "_law_state", "_law_deep", "_law_scope"] a__law_made d__law_made) {a__law_free : Addr} {d__law_free : FuncData} (h__law_free : DefOk K mg "_law_free" s__law_free ["_law_piece_here"] a__law_free d__law_free) {a__law_places : Addr} {d__law_places : FuncData} (h__law_places : DefOk K mg "_law_places" s__law_places ["_law_piece_here"] a__law_places d__law_places) {a__law_changed : Addr} {d__law_changed : FuncData} (h__law_changed : DefOk K mg "_law_changed" s__law_changed ["_law_piece_here", "_law_place", "_law_cell"] a__law_changed d__law_changed) {a__law_told : Addr} {d__law_told : FuncData} (h__law_told : DefOk K mg "_law_told" s__law_told ["_law_thing", "_law_good", "_law_names"] a__law_told d__law_told) {a__law_great : Addr} {d__law_great : FuncData} (h__law_great : DefOk K mg "_law_great" s__law_great ["_law_cell"] a__law_great d__law_great) (mb : Mb K mg) : ∀ k n, Cal P w K mg base C k (nmS n) (nmA n) (Fk k n)
  | 0, n => by
    cases n
    · exact ⟨_, _, _, fn_none, h_is_whole.B, h_is_whole.F.kp, h_is_whole.M⟩
    · exact ⟨_, _, _, fn_none, h_is_name.B, h_is_name.F.kp, h_is_name.M⟩
    · exact ⟨_, _, _, fn_none, h_is_mark.B, h_is_mark.F.kp, h_is_mark.M⟩
    · exact ⟨_, _, _, fn_none, h_is_number.B, h_is_number.F.kp, h_is_number.M⟩
    · exact ⟨_, _, _, fn_none, h_shape_of.B, h_shape_of.F.kp, h_shape_of.M⟩
    · exact ⟨_, _, _, fn_none, h_is_leaf_part.B, h_is_leaf_part.F.kp, h_is_leaf_part.M⟩
    · exact ⟨_, _, _, fn_none, h_knots_if.B, h_knots_if.F.kp, h_knots_if.M⟩
    · exact ⟨_, _, _, fn_none, h_is_piece.B, h_is_piece.F.kp, h_is_piece.M⟩
    · exact ⟨_, _, _, fn_none, h_note_free.B, h_note_free.F.kp, h_note_free.M⟩
    · exact ⟨_, _, _, fn_none, h_free_names.B, h_free_names.F.kp, h_free_names.M⟩
    · exact ⟨_, _, _, fn_none, h_is_closed.B, h_is_closed.F.kp, h_is_closed.M⟩
    · exact ⟨_, _, _, fn_none, h__law_cell_at.B, h__law_cell_at.F.kp, h__law_cell_at.M⟩
    · exact ⟨_, _, _, fn_none, h__law_mixed.B, h__law_mixed.F.kp, h__law_mixed.M⟩
    · exact ⟨_, _, _, fn_none, h__law_name_by.B, h__law_name_by.F.kp, h__law_name_by.M⟩
    · exact ⟨_, _, _, fn_none, h__law_mark_by.B, h__law_mark_by.F.kp, h__law_mark_by.M⟩
    · exact ⟨_, _, _, fn_none, h__law_leaf.B, h__law_leaf.F.kp, h__law_leaf.M⟩
    · exact ⟨_, _, _, fn_none, h__law_gone_on.B, h__law_gone_on.F.kp, h__law_gone_on.M⟩
    · exact ⟨_, _, _, fn_none, h__law_made.B, h__law_made.F.kp, h__law_made.M⟩
    · exact ⟨_, _, _, fn_none, h__law_free.B, h__law_free.F.kp, h__law_free.M⟩
    · exact ⟨_, _, _, fn_none, h__law_places.B, h__law_places.F.kp, h__law_places.M⟩
    · exact ⟨_, _, _, fn_none, h__law_changed.B, h__law_changed.F.kp, h__law_changed.M⟩
    · exact ⟨_, _, _, fn_none, h__law_told.B, h__law_told.F.kp, h__law_told.M⟩
    · exact ⟨_, _, _, fn_none, h__law_great.B, h__law_great.F.kp, h__law_great.M⟩
  | k + 1, n => by
    have ih := all_ok h_is_whole h_is_name h_is_mark h_is_number h_shape_of h_is_leaf_part h_knots_if h_is_piece h_note_free h_free_names h_is_closed h__law_cell_at h__law_mixed h__law_name_by h__law_mark_by h__law_leaf h__law_gone_on h__law_made h__law_free h__law_places h__law_changed h__law_told h__law_great mb k
    cases n
    · exact ⟨_, _, _, Cb.FnOk.gc (ok_is_whole h_is_whole.F ih mb), h_is_whole.B, h_is_whole.F.kp, h_is_whole.M⟩
    · exact ⟨_, _, _, Cb.FnOk.gc (ok_is_name h_is_name.F ih mb), h_is_name.B, h_is_name.F.kp, h_is_name.M⟩
    · exact ⟨_, _, _, Cb.FnOk.gc (ok_is_mark h_is_mark.F ih mb), h_is_mark.B, h_is_mark.F.kp, h_is_mark.M⟩
    · exact ⟨_, _, _, Cb.FnOk.gc (ok_is_number h_is_number.F ih mb), h_is_number.B, h_is_number.F.kp, h_is_number.M⟩
    · exact ⟨_, _, _, Cb.FnOk.gc (ok_shape_of h_shape_of.F ih mb), h_shape_of.B, h_shape_of.F.kp, h_shape_of.M⟩
    · exact ⟨_, _, _, Cb.FnOk.gc (ok_is_leaf_part h_is_leaf_part.F ih mb), h_is_leaf_part.B, h_is_leaf_part.F.kp, h_is_leaf_part.M⟩
    · exact ⟨_, _, _, Cb.FnOk.gc (ok_knots_if h_knots_if.F ih mb), h_knots_if.B, h_knots_if.F.kp, h_knots_if.M⟩
    · exact ⟨_, _, _, Cb.FnOk.gc (ok_is_piece h_is_piece.F ih mb), h_is_piece.B, h_is_piece.F.kp, h_is_piece.M⟩
    · exact ⟨_, _, _, Cb.FnOk.gc (ok_note_free h_note_free.F ih mb), h_note_free.B, h_note_free.F.kp, h_note_free.M⟩
    · exact ⟨_, _, _, Cb.FnOk.gc (ok_free_names h_free_names.F ih mb), h_free_names.B, h_free_names.F.kp, h_free_names.M⟩
    · exact ⟨_, _, _, Cb.FnOk.gc (ok_is_closed h_is_closed.F ih mb), h_is_closed.B, h_is_closed.F.kp, h_is_closed.M⟩
    · exact ⟨_, _, _, Cb.FnOk.gc (ok__law_cell_at h__law_cell_at.F ih mb), h__law_cell_at.B, h__law_cell_at.F.kp, h__law_cell_at.M⟩
    · exact ⟨_, _, _, Cb.FnOk.gc (ok__law_mixed h__law_mixed.F ih mb), h__law_mixed.B, h__law_mixed.F.kp, h__law_mixed.M⟩
    · exact ⟨_, _, _, Cb.FnOk.gc (ok__law_name_by h__law_name_by.F ih mb), h__law_name_by.B, h__law_name_by.F.kp, h__law_name_by.M⟩
    · exact ⟨_, _, _, Cb.FnOk.gc (ok__law_mark_by h__law_mark_by.F ih mb), h__law_mark_by.B, h__law_mark_by.F.kp, h__law_mark_by.M⟩
    · exact ⟨_, _, _, Cb.FnOk.gc (ok__law_leaf h__law_leaf.F ih mb), h__law_leaf.B, h__law_leaf.F.kp, h__law_leaf.M⟩
    · exact ⟨_, _, _, Cb.FnOk.gc (ok__law_gone_on h__law_gone_on.F ih mb), h__law_gone_on.B, h__law_gone_on.F.kp, h__law_gone_on.M⟩
    · exact ⟨_, _, _, Cb.FnOk.gc (ok__law_made h__law_made.F ih mb), h__law_made.B, h__law_made.F.kp, h__law_made.M⟩
    · exact ⟨_, _, _, Cb.FnOk.gc (ok__law_free h__law_free.F ih mb), h__law_free.B, h__law_free.F.kp, h__law_free.M⟩
    · exact ⟨_, _, _, Cb.FnOk.gc (ok__law_places h__law_places.F ih mb), h__law_places.B, h__law_places.F.kp, h__law_places.M⟩
    · exact ⟨_, _, _, Cb.FnOk.gc (ok__law_changed h__law_changed.F ih mb), h__law_changed.B, h__law_changed.F.kp, h__law_changed.M⟩
    · exact ⟨_, _, _, Cb.FnOk.gc (ok__law_told h__law_told.F ih mb), h__law_told.B, h__law_told.F.kp, h__law_told.M⟩
    · exact ⟨_, _, _, Cb.FnOk.gc (ok__law_great h__law_great.F ih mb), h__law_great.B, h__law_great.F.kp, h__law_great.M⟩
end
def spLaw (K : PySem.W.Frag) : L2.Sp := fun vs H Q _ => ∃ (a : Addr) (ns : List Int), vs = [.ref a] ∧ SqF K H a (ns.map V.int) ∧ ns.length ≤ 63 ∧ ∀ H', Q (.bl true) H'
theorem law_imp {P : Program} {w : World} {K : PySem.W.Frag} {mg : Str → Option Value} {base : Heap} {C f : Addr} {fd : FuncData} {k n : Nat} {b : B} (hT : ∀ ns : List Int, ns.length ≤ 63 → ∃ S, fnD n b [.scr ns] [] = some (.bl true, S)) (h : FnOk P w K mg base CX0 k f fd ["_law_script"] (spF C K 1 (fnD n b))) : FnOk P w K mg base CX0 k f fd ["_law_script"] (spLaw K) :=
  h.imp fun vs H Q E ⟨a, ns, e, hS, hl, q⟩ => by
    subst e
    obtain ⟨S, hf⟩ := hT ns hl
    exact ⟨rfl, ⟨[], []⟩, [], [.scr ns], .bl true, S, .cons (.scr hS) .nil, ⟨List.nodup_nil, rfl, fun n a o h1 h2 => by simp at h1, fun a ha => by simp at ha, fun a ha => by simp at ha⟩, hf, fun v m' H' e s r => by cases r; exact q H'⟩
theorem all_mk (hT : ∀ ns : List Int, ns.length ≤ 63 → ∃ S, fnD 10 (b_law (Fk 230)) [.scr ns] [] = some (.bl true, S)) {l : PySem.W.OpenLaw} {w : World} {K : PySem.W.Frag} {h : Heap} {mg : Str → Option Value} {fa : Addr} (X : K.In h) (G : h.Ns mainGlobals mg) (hfa : mg "law" = some (.ref fa))
    {f0 : Addr} {od0 an0 : Option Addr} {sl0 : Array (Option Value)} {oc0 kV0 dc0 pm0 cd0 ct0 : Value}
    (a0 : PySem.W.nsIn K mainGlobals "is_whole" = some (some (.ref f0))) (l0 : K.lookup f0 = some ⟨oc0, od0, .func (PySem.W.fnOf "is_whole" "is_whole" (defArgs s_is_whole) (defBody s_is_whole) (defScope s_is_whole) .none kV0 dc0 pm0 an0 cd0 ct0), sl0⟩) (c0 : PySem.W.codeIn K cd0 "is_whole" = true) (k0 : PySem.W.keepIn K (.ref f0) = true)
    {f1 : Addr} {od1 an1 : Option Addr} {sl1 : Array (Option Value)} {oc1 kV1 dc1 pm1 cd1 ct1 : Value}
    (a1 : PySem.W.nsIn K mainGlobals "is_name" = some (some (.ref f1))) (l1 : K.lookup f1 = some ⟨oc1, od1, .func (PySem.W.fnOf "is_name" "is_name" (defArgs s_is_name) (defBody s_is_name) (defScope s_is_name) .none kV1 dc1 pm1 an1 cd1 ct1), sl1⟩) (c1 : PySem.W.codeIn K cd1 "is_name" = true) (k1 : PySem.W.keepIn K (.ref f1) = true)
    {f2 : Addr} {od2 an2 : Option Addr} {sl2 : Array (Option Value)} {oc2 kV2 dc2 pm2 cd2 ct2 : Value}
    (a2 : PySem.W.nsIn K mainGlobals "is_mark" = some (some (.ref f2))) (l2 : K.lookup f2 = some ⟨oc2, od2, .func (PySem.W.fnOf "is_mark" "is_mark" (defArgs s_is_mark) (defBody s_is_mark) (defScope s_is_mark) .none kV2 dc2 pm2 an2 cd2 ct2), sl2⟩) (c2 : PySem.W.codeIn K cd2 "is_mark" = true) (k2 : PySem.W.keepIn K (.ref f2) = true)
    {f3 : Addr} {od3 an3 : Option Addr} {sl3 : Array (Option Value)} {oc3 kV3 dc3 pm3 cd3 ct3 : Value}
    (a3 : PySem.W.nsIn K mainGlobals "is_number" = some (some (.ref f3))) (l3 : K.lookup f3 = some ⟨oc3, od3, .func (PySem.W.fnOf "is_number" "is_number" (defArgs s_is_number) (defBody s_is_number) (defScope s_is_number) .none kV3 dc3 pm3 an3 cd3 ct3), sl3⟩) (c3 : PySem.W.codeIn K cd3 "is_number" = true) (k3 : PySem.W.keepIn K (.ref f3) = true)
    {f4 : Addr} {od4 an4 : Option Addr} {sl4 : Array (Option Value)} {oc4 kV4 dc4 pm4 cd4 ct4 : Value}
    (a4 : PySem.W.nsIn K mainGlobals "shape_of" = some (some (.ref f4))) (l4 : K.lookup f4 = some ⟨oc4, od4, .func (PySem.W.fnOf "shape_of" "shape_of" (defArgs s_shape_of) (defBody s_shape_of) (defScope s_shape_of) .none kV4 dc4 pm4 an4 cd4 ct4), sl4⟩) (c4 : PySem.W.codeIn K cd4 "shape_of" = true) (k4 : PySem.W.keepIn K (.ref f4) = true)
    {f5 : Addr} {od5 an5 : Option Addr} {sl5 : Array (Option Value)} {oc5 kV5 dc5 pm5 cd5 ct5 : Value}
    (a5 : PySem.W.nsIn K mainGlobals "is_leaf_part" = some (some (.ref f5))) (l5 : K.lookup f5 = some ⟨oc5, od5, .func (PySem.W.fnOf "is_leaf_part" "is_leaf_part" (defArgs s_is_leaf_part) (defBody s_is_leaf_part) (defScope s_is_leaf_part) .none kV5 dc5 pm5 an5 cd5 ct5), sl5⟩) (c5 : PySem.W.codeIn K cd5 "is_leaf_part" = true) (k5 : PySem.W.keepIn K (.ref f5) = true)
    {f6 : Addr} {od6 an6 : Option Addr} {sl6 : Array (Option Value)} {oc6 kV6 dc6 pm6 cd6 ct6 : Value}
    (a6 : PySem.W.nsIn K mainGlobals "knots_if" = some (some (.ref f6))) (l6 : K.lookup f6 = some ⟨oc6, od6, .func (PySem.W.fnOf "knots_if" "knots_if" (defArgs s_knots_if) (defBody s_knots_if) (defScope s_knots_if) .none kV6 dc6 pm6 an6 cd6 ct6), sl6⟩) (c6 : PySem.W.codeIn K cd6 "knots_if" = true) (k6 : PySem.W.keepIn K (.ref f6) = true)
    {f7 : Addr} {od7 an7 : Option Addr} {sl7 : Array (Option Value)} {oc7 kV7 dc7 pm7 cd7 ct7 : Value}
    (a7 : PySem.W.nsIn K mainGlobals "is_piece" = some (some (.ref f7))) (l7 : K.lookup f7 = some ⟨oc7, od7, .func (PySem.W.fnOf "is_piece" "is_piece" (defArgs s_is_piece) (defBody s_is_piece) (defScope s_is_piece) .none kV7 dc7 pm7 an7 cd7 ct7), sl7⟩) (c7 : PySem.W.codeIn K cd7 "is_piece" = true) (k7 : PySem.W.keepIn K (.ref f7) = true)
    {f8 : Addr} {od8 an8 : Option Addr} {sl8 : Array (Option Value)} {oc8 kV8 dc8 pm8 cd8 ct8 : Value}
    (a8 : PySem.W.nsIn K mainGlobals "note_free" = some (some (.ref f8))) (l8 : K.lookup f8 = some ⟨oc8, od8, .func (PySem.W.fnOf "note_free" "note_free" (defArgs s_note_free) (defBody s_note_free) (defScope s_note_free) .none kV8 dc8 pm8 an8 cd8 ct8), sl8⟩) (c8 : PySem.W.codeIn K cd8 "note_free" = true) (k8 : PySem.W.keepIn K (.ref f8) = true)
    {f9 : Addr} {od9 an9 : Option Addr} {sl9 : Array (Option Value)} {oc9 kV9 dc9 pm9 cd9 ct9 : Value}
    (a9 : PySem.W.nsIn K mainGlobals "free_names" = some (some (.ref f9))) (l9 : K.lookup f9 = some ⟨oc9, od9, .func (PySem.W.fnOf "free_names" "free_names" (defArgs s_free_names) (defBody s_free_names) (defScope s_free_names) .none kV9 dc9 pm9 an9 cd9 ct9), sl9⟩) (c9 : PySem.W.codeIn K cd9 "free_names" = true) (k9 : PySem.W.keepIn K (.ref f9) = true)
    {f10 : Addr} {od10 an10 : Option Addr} {sl10 : Array (Option Value)} {oc10 kV10 dc10 pm10 cd10 ct10 : Value}
    (a10 : PySem.W.nsIn K mainGlobals "is_closed" = some (some (.ref f10))) (l10 : K.lookup f10 = some ⟨oc10, od10, .func (PySem.W.fnOf "is_closed" "is_closed" (defArgs s_is_closed) (defBody s_is_closed) (defScope s_is_closed) .none kV10 dc10 pm10 an10 cd10 ct10), sl10⟩) (c10 : PySem.W.codeIn K cd10 "is_closed" = true) (k10 : PySem.W.keepIn K (.ref f10) = true)
    {f11 : Addr} {od11 an11 : Option Addr} {sl11 : Array (Option Value)} {oc11 kV11 dc11 pm11 cd11 ct11 : Value}
    (a11 : PySem.W.nsIn K mainGlobals "_law_cell_at" = some (some (.ref f11))) (l11 : K.lookup f11 = some ⟨oc11, od11, .func (PySem.W.fnOf "_law_cell_at" "_law_cell_at" (defArgs s__law_cell_at) (defBody s__law_cell_at) (defScope s__law_cell_at) .none kV11 dc11 pm11 an11 cd11 ct11), sl11⟩) (c11 : PySem.W.codeIn K cd11 "_law_cell_at" = true) (k11 : PySem.W.keepIn K (.ref f11) = true)
    {f12 : Addr} {od12 an12 : Option Addr} {sl12 : Array (Option Value)} {oc12 kV12 dc12 pm12 cd12 ct12 : Value}
    (a12 : PySem.W.nsIn K mainGlobals "_law_mixed" = some (some (.ref f12))) (l12 : K.lookup f12 = some ⟨oc12, od12, .func (PySem.W.fnOf "_law_mixed" "_law_mixed" (defArgs s__law_mixed) (defBody s__law_mixed) (defScope s__law_mixed) .none kV12 dc12 pm12 an12 cd12 ct12), sl12⟩) (c12 : PySem.W.codeIn K cd12 "_law_mixed" = true) (k12 : PySem.W.keepIn K (.ref f12) = true)
    {f13 : Addr} {od13 an13 : Option Addr} {sl13 : Array (Option Value)} {oc13 kV13 dc13 pm13 cd13 ct13 : Value}
    (a13 : PySem.W.nsIn K mainGlobals "_law_name_by" = some (some (.ref f13))) (l13 : K.lookup f13 = some ⟨oc13, od13, .func (PySem.W.fnOf "_law_name_by" "_law_name_by" (defArgs s__law_name_by) (defBody s__law_name_by) (defScope s__law_name_by) .none kV13 dc13 pm13 an13 cd13 ct13), sl13⟩) (c13 : PySem.W.codeIn K cd13 "_law_name_by" = true) (k13 : PySem.W.keepIn K (.ref f13) = true)
    {f14 : Addr} {od14 an14 : Option Addr} {sl14 : Array (Option Value)} {oc14 kV14 dc14 pm14 cd14 ct14 : Value}
    (a14 : PySem.W.nsIn K mainGlobals "_law_mark_by" = some (some (.ref f14))) (l14 : K.lookup f14 = some ⟨oc14, od14, .func (PySem.W.fnOf "_law_mark_by" "_law_mark_by" (defArgs s__law_mark_by) (defBody s__law_mark_by) (defScope s__law_mark_by) .none kV14 dc14 pm14 an14 cd14 ct14), sl14⟩) (c14 : PySem.W.codeIn K cd14 "_law_mark_by" = true) (k14 : PySem.W.keepIn K (.ref f14) = true)
    {f15 : Addr} {od15 an15 : Option Addr} {sl15 : Array (Option Value)} {oc15 kV15 dc15 pm15 cd15 ct15 : Value}
    (a15 : PySem.W.nsIn K mainGlobals "_law_leaf" = some (some (.ref f15))) (l15 : K.lookup f15 = some ⟨oc15, od15, .func (PySem.W.fnOf "_law_leaf" "_law_leaf" (defArgs s__law_leaf) (defBody s__law_leaf) (defScope s__law_leaf) .none kV15 dc15 pm15 an15 cd15 ct15), sl15⟩) (c15 : PySem.W.codeIn K cd15 "_law_leaf" = true) (k15 : PySem.W.keepIn K (.ref f15) = true)
    {f16 : Addr} {od16 an16 : Option Addr} {sl16 : Array (Option Value)} {oc16 kV16 dc16 pm16 cd16 ct16 : Value}
    (a16 : PySem.W.nsIn K mainGlobals "_law_gone_on" = some (some (.ref f16))) (l16 : K.lookup f16 = some ⟨oc16, od16, .func (PySem.W.fnOf "_law_gone_on" "_law_gone_on" (defArgs s__law_gone_on) (defBody s__law_gone_on) (defScope s__law_gone_on) .none kV16 dc16 pm16 an16 cd16 ct16), sl16⟩) (c16 : PySem.W.codeIn K cd16 "_law_gone_on" = true) (k16 : PySem.W.keepIn K (.ref f16) = true)
    {f17 : Addr} {od17 an17 : Option Addr} {sl17 : Array (Option Value)} {oc17 kV17 dc17 pm17 cd17 ct17 : Value}
    (a17 : PySem.W.nsIn K mainGlobals "_law_made" = some (some (.ref f17))) (l17 : K.lookup f17 = some ⟨oc17, od17, .func (PySem.W.fnOf "_law_made" "_law_made" (defArgs s__law_made) (defBody s__law_made) (defScope s__law_made) .none kV17 dc17 pm17 an17 cd17 ct17), sl17⟩) (c17 : PySem.W.codeIn K cd17 "_law_made" = true) (k17 : PySem.W.keepIn K (.ref f17) = true)
    {f18 : Addr} {od18 an18 : Option Addr} {sl18 : Array (Option Value)} {oc18 kV18 dc18 pm18 cd18 ct18 : Value}
    (a18 : PySem.W.nsIn K mainGlobals "_law_free" = some (some (.ref f18))) (l18 : K.lookup f18 = some ⟨oc18, od18, .func (PySem.W.fnOf "_law_free" "_law_free" (defArgs s__law_free) (defBody s__law_free) (defScope s__law_free) .none kV18 dc18 pm18 an18 cd18 ct18), sl18⟩) (c18 : PySem.W.codeIn K cd18 "_law_free" = true) (k18 : PySem.W.keepIn K (.ref f18) = true)
    {f19 : Addr} {od19 an19 : Option Addr} {sl19 : Array (Option Value)} {oc19 kV19 dc19 pm19 cd19 ct19 : Value}
    (a19 : PySem.W.nsIn K mainGlobals "_law_places" = some (some (.ref f19))) (l19 : K.lookup f19 = some ⟨oc19, od19, .func (PySem.W.fnOf "_law_places" "_law_places" (defArgs s__law_places) (defBody s__law_places) (defScope s__law_places) .none kV19 dc19 pm19 an19 cd19 ct19), sl19⟩) (c19 : PySem.W.codeIn K cd19 "_law_places" = true) (k19 : PySem.W.keepIn K (.ref f19) = true)
    {f20 : Addr} {od20 an20 : Option Addr} {sl20 : Array (Option Value)} {oc20 kV20 dc20 pm20 cd20 ct20 : Value}
    (a20 : PySem.W.nsIn K mainGlobals "_law_changed" = some (some (.ref f20))) (l20 : K.lookup f20 = some ⟨oc20, od20, .func (PySem.W.fnOf "_law_changed" "_law_changed" (defArgs s__law_changed) (defBody s__law_changed) (defScope s__law_changed) .none kV20 dc20 pm20 an20 cd20 ct20), sl20⟩) (c20 : PySem.W.codeIn K cd20 "_law_changed" = true) (k20 : PySem.W.keepIn K (.ref f20) = true)
    {f21 : Addr} {od21 an21 : Option Addr} {sl21 : Array (Option Value)} {oc21 kV21 dc21 pm21 cd21 ct21 : Value}
    (a21 : PySem.W.nsIn K mainGlobals "_law_told" = some (some (.ref f21))) (l21 : K.lookup f21 = some ⟨oc21, od21, .func (PySem.W.fnOf "_law_told" "_law_told" (defArgs s__law_told) (defBody s__law_told) (defScope s__law_told) .none kV21 dc21 pm21 an21 cd21 ct21), sl21⟩) (c21 : PySem.W.codeIn K cd21 "_law_told" = true) (k21 : PySem.W.keepIn K (.ref f21) = true)
    {f22 : Addr} {od22 an22 : Option Addr} {sl22 : Array (Option Value)} {oc22 kV22 dc22 pm22 cd22 ct22 : Value}
    (a22 : PySem.W.nsIn K mainGlobals "_law_great" = some (some (.ref f22))) (l22 : K.lookup f22 = some ⟨oc22, od22, .func (PySem.W.fnOf "_law_great" "_law_great" (defArgs s__law_great) (defBody s__law_great) (defScope s__law_great) .none kV22 dc22 pm22 an22 cd22 ct22), sl22⟩) (c22 : PySem.W.codeIn K cd22 "_law_great" = true) (k22 : PySem.W.keepIn K (.ref f22) = true)
    {f23 : Addr} {od23 an23 : Option Addr} {sl23 : Array (Option Value)} {oc23 kV23 dc23 pm23 cd23 ct23 : Value}
    (a23 : PySem.W.nsIn K mainGlobals "law" = some (some (.ref f23))) (l23 : K.lookup f23 = some ⟨oc23, od23, .func (PySem.W.fnOf "law" "law" (defArgs s_law) (defBody s_law) (defScope s_law) .none kV23 dc23 pm23 an23 cd23 ct23), sl23⟩) (c23 : PySem.W.codeIn K cd23 "law" = true) (k23 : PySem.W.keepIn K (.ref f23) = true)
    (z_bool : PySem.W.nsIn K mainGlobals "bool" = some none)
    (z_int : PySem.W.nsIn K mainGlobals "int" = some none)
    (z_isinstance : PySem.W.nsIn K mainGlobals "isinstance" = some none)
    (z_len : PySem.W.nsIn K mainGlobals "len" = some none)
    (z_list : PySem.W.nsIn K mainGlobals "list" = some none)
    (z_min : PySem.W.nsIn K mainGlobals "min" = some none)
    (z_range : PySem.W.nsIn K mainGlobals "range" = some none)
    (z_set : PySem.W.nsIn K mainGlobals "set" = some none)
    (z_sorted : PySem.W.nsIn K mainGlobals "sorted" = some none)
    (z_str : PySem.W.nsIn K mainGlobals "str" = some none)
    (z_tuple : PySem.W.nsIn K mainGlobals "tuple" = some none)
    (z_zip : PySem.W.nsIn K mainGlobals "zip" = some none)
    {t_DEEPEST : Tok} (z_DEEPEST : PySem.W.nsIn K mainGlobals "DEEPEST" = some (some (.int 30 t_DEEPEST)))
    {t_LETTERS : Tok} (z_LETTERS : PySem.W.nsIn K mainGlobals "LETTERS" = some (some (.str "abcdefghijklmnopqrstuvwxyz" t_LETTERS)))
    {t_LIMIT : Tok} (z_LIMIT : PySem.W.nsIn K mainGlobals "LIMIT" = some (some (.int 1000000000000 t_LIMIT)))
    {t_MOST_KNOTS : Tok} (z_MOST_KNOTS : PySem.W.nsIn K mainGlobals "MOST_KNOTS" = some (some (.int 300 t_MOST_KNOTS)))
    {t_MOST_LETTERS : Tok} (z_MOST_LETTERS : PySem.W.nsIn K mainGlobals "MOST_LETTERS" = some (some (.int 8 t_MOST_LETTERS)))
    {t_MOST_MARK : Tok} (z_MOST_MARK : PySem.W.nsIn K mainGlobals "MOST_MARK" = some (some (.int 9999 t_MOST_MARK)))
    : ∃ fd : FuncData, (∀ (s : Shared) (v : Value), BindsTo s fd ⟨[v], []⟩ [("_law_script", v)]) ∧ ∀ base : Heap, K.In base → base.Ns mainGlobals mg → FnOk l.prog w K mg base CX0 231 fa fd ["_law_script"] (spLaw K) := by
  have e := hfa.symm.trans (PySem.W.mg_of X G a23)
  cases e
  have F0 := fun_mk (st := s_is_whole) l0 c0 k0
  have D0 : DefOk K mg "is_whole" s_is_whole ["thing"] f0 _ := ⟨F0, F0.binds (ps := ["thing"]) fun _ _ _ _ _ _ us hl => match us, hl with | [_], _ => rfl, PySem.W.mg_of X G a0⟩
  have F1 := fun_mk (st := s_is_name) l1 c1 k1
  have D1 : DefOk K mg "is_name" s_is_name ["thing"] f1 _ := ⟨F1, F1.binds (ps := ["thing"]) fun _ _ _ _ _ _ us hl => match us, hl with | [_], _ => rfl, PySem.W.mg_of X G a1⟩
  have F2 := fun_mk (st := s_is_mark) l2 c2 k2
  have D2 : DefOk K mg "is_mark" s_is_mark ["thing"] f2 _ := ⟨F2, F2.binds (ps := ["thing"]) fun _ _ _ _ _ _ us hl => match us, hl with | [_], _ => rfl, PySem.W.mg_of X G a2⟩
  have F3 := fun_mk (st := s_is_number) l3 c3 k3
  have D3 : DefOk K mg "is_number" s_is_number ["thing"] f3 _ := ⟨F3, F3.binds (ps := ["thing"]) fun _ _ _ _ _ _ us hl => match us, hl with | [_], _ => rfl, PySem.W.mg_of X G a3⟩
  have F4 := fun_mk (st := s_shape_of) l4 c4 k4
  have D4 : DefOk K mg "shape_of" s_shape_of ["word"] f4 _ := ⟨F4, F4.binds (ps := ["word"]) fun _ _ _ _ _ _ us hl => match us, hl with | [_], _ => rfl, PySem.W.mg_of X G a4⟩
  have F5 := fun_mk (st := s_is_leaf_part) l5 c5 k5
  have D5 : DefOk K mg "is_leaf_part" s_is_leaf_part ["sign", "thing"] f5 _ := ⟨F5, F5.binds (ps := ["sign", "thing"]) fun _ _ _ _ _ _ us hl => match us, hl with | [_, _], _ => rfl, PySem.W.mg_of X G a5⟩
  have F6 := fun_mk (st := s_knots_if) l6 c6 k6
  have D6 : DefOk K mg "knots_if" s_knots_if ["thing", "left"] f6 _ := ⟨F6, F6.binds (ps := ["thing", "left"]) fun _ _ _ _ _ _ us hl => match us, hl with | [_, _], _ => rfl, PySem.W.mg_of X G a6⟩
  have F7 := fun_mk (st := s_is_piece) l7 c7 k7
  have D7 : DefOk K mg "is_piece" s_is_piece ["thing"] f7 _ := ⟨F7, F7.binds (ps := ["thing"]) fun _ _ _ _ _ _ us hl => match us, hl with | [_], _ => rfl, PySem.W.mg_of X G a7⟩
  have F8 := fun_mk (st := s_note_free) l8 c8 k8
  have D8 : DefOk K mg "note_free" s_note_free ["piece", "bound", "found"] f8 _ := ⟨F8, F8.binds (ps := ["piece", "bound", "found"]) fun _ _ _ _ _ _ us hl => match us, hl with | [_, _, _], _ => rfl, PySem.W.mg_of X G a8⟩
  have F9 := fun_mk (st := s_free_names) l9 c9 k9
  have D9 : DefOk K mg "free_names" s_free_names ["piece"] f9 _ := ⟨F9, F9.binds (ps := ["piece"]) fun _ _ _ _ _ _ us hl => match us, hl with | [_], _ => rfl, PySem.W.mg_of X G a9⟩
  have F10 := fun_mk (st := s_is_closed) l10 c10 k10
  have D10 : DefOk K mg "is_closed" s_is_closed ["thing"] f10 _ := ⟨F10, F10.binds (ps := ["thing"]) fun _ _ _ _ _ _ us hl => match us, hl with | [_], _ => rfl, PySem.W.mg_of X G a10⟩
  have F11 := fun_mk (st := s__law_cell_at) l11 c11 k11
  have D11 : DefOk K mg "_law_cell_at" s__law_cell_at ["_law_script", "_law_k"] f11 _ := ⟨F11, F11.binds (ps := ["_law_script", "_law_k"]) fun _ _ _ _ _ _ us hl => match us, hl with | [_, _], _ => rfl, PySem.W.mg_of X G a11⟩
  have F12 := fun_mk (st := s__law_mixed) l12 c12 k12
  have D12 : DefOk K mg "_law_mixed" s__law_mixed ["_law_number"] f12 _ := ⟨F12, F12.binds (ps := ["_law_number"]) fun _ _ _ _ _ _ us hl => match us, hl with | [_], _ => rfl, PySem.W.mg_of X G a12⟩
  have F13 := fun_mk (st := s__law_name_by) l13 c13 k13
  have D13 : DefOk K mg "_law_name_by" s__law_name_by ["_law_mix"] f13 _ := ⟨F13, F13.binds (ps := ["_law_mix"]) fun _ _ _ _ _ _ us hl => match us, hl with | [_], _ => rfl, PySem.W.mg_of X G a13⟩
  have F14 := fun_mk (st := s__law_mark_by) l14 c14 k14
  have D14 : DefOk K mg "_law_mark_by" s__law_mark_by ["_law_mix"] f14 _ := ⟨F14, F14.binds (ps := ["_law_mix"]) fun _ _ _ _ _ _ us hl => match us, hl with | [_], _ => rfl, PySem.W.mg_of X G a14⟩
  have F15 := fun_mk (st := s__law_leaf) l15 c15 k15
  have D15 : DefOk K mg "_law_leaf" s__law_leaf ["_law_mix", "_law_scope"] f15 _ := ⟨F15, F15.binds (ps := ["_law_mix", "_law_scope"]) fun _ _ _ _ _ _ us hl => match us, hl with | [_, _], _ => rfl, PySem.W.mg_of X G a15⟩
  have F16 := fun_mk (st := s__law_gone_on) l16 c16 k16
  have D16 : DefOk K mg "_law_gone_on" s__law_gone_on ["_law_script", "_law_state", "_law_deep", "_law_scope"] f16 _ := ⟨F16, F16.binds (ps := ["_law_script", "_law_state", "_law_deep", "_law_scope"]) fun _ _ _ _ _ _ us hl => match us, hl with | [_, _, _, _], _ => rfl, PySem.W.mg_of X G a16⟩
  have F17 := fun_mk (st := s__law_made) l17 c17 k17
  have D17 : DefOk K mg "_law_made" s__law_made ["_law_script", "_law_state", "_law_deep", "_law_scope"] f17 _ := ⟨F17, F17.binds (ps := ["_law_script", "_law_state", "_law_deep", "_law_scope"]) fun _ _ _ _ _ _ us hl => match us, hl with | [_, _, _, _], _ => rfl, PySem.W.mg_of X G a17⟩
  have F18 := fun_mk (st := s__law_free) l18 c18 k18
  have D18 : DefOk K mg "_law_free" s__law_free ["_law_piece_here"] f18 _ := ⟨F18, F18.binds (ps := ["_law_piece_here"]) fun _ _ _ _ _ _ us hl => match us, hl with | [_], _ => rfl, PySem.W.mg_of X G a18⟩
  have F19 := fun_mk (st := s__law_places) l19 c19 k19
  have D19 : DefOk K mg "_law_places" s__law_places ["_law_piece_here"] f19 _ := ⟨F19, F19.binds (ps := ["_law_piece_here"]) fun _ _ _ _ _ _ us hl => match us, hl with | [_], _ => rfl, PySem.W.mg_of X G a19⟩
  have F20 := fun_mk (st := s__law_changed) l20 c20 k20
  have D20 : DefOk K mg "_law_changed" s__law_changed ["_law_piece_here", "_law_place", "_law_cell"] f20 _ := ⟨F20, F20.binds (ps := ["_law_piece_here", "_law_place", "_law_cell"]) fun _ _ _ _ _ _ us hl => match us, hl with | [_, _, _], _ => rfl, PySem.W.mg_of X G a20⟩
  have F21 := fun_mk (st := s__law_told) l21 c21 k21
  have D21 : DefOk K mg "_law_told" s__law_told ["_law_thing", "_law_good", "_law_names"] f21 _ := ⟨F21, F21.binds (ps := ["_law_thing", "_law_good", "_law_names"]) fun _ _ _ _ _ _ us hl => match us, hl with | [_, _, _], _ => rfl, PySem.W.mg_of X G a21⟩
  have F22 := fun_mk (st := s__law_great) l22 c22 k22
  have D22 : DefOk K mg "_law_great" s__law_great ["_law_cell"] f22 _ := ⟨F22, F22.binds (ps := ["_law_cell"]) fun _ _ _ _ _ _ us hl => match us, hl with | [_], _ => rfl, PySem.W.mg_of X G a22⟩
  have F23 := fun_mk (st := s_law) l23 c23 k23
  have mb : Mb K mg := ⟨PySem.W.mg_none_of X G z_bool, PySem.W.mg_none_of X G z_int, PySem.W.mg_none_of X G z_isinstance, PySem.W.mg_none_of X G z_len, PySem.W.mg_none_of X G z_list, PySem.W.mg_none_of X G z_min, PySem.W.mg_none_of X G z_range, PySem.W.mg_none_of X G z_set, PySem.W.mg_none_of X G z_sorted, PySem.W.mg_none_of X G z_str, PySem.W.mg_none_of X G z_tuple, PySem.W.mg_none_of X G z_zip, ⟨_, PySem.W.mg_of X G z_DEEPEST⟩, ⟨_, PySem.W.mg_of X G z_LETTERS⟩, ⟨_, PySem.W.mg_of X G z_LIMIT⟩, ⟨_, PySem.W.mg_of X G z_MOST_KNOTS⟩, ⟨_, PySem.W.mg_of X G z_MOST_LETTERS⟩, ⟨_, PySem.W.mg_of X G z_MOST_MARK⟩⟩
  refine ⟨PySem.W.fnOf "law" "law" (defArgs s_law) (defBody s_law) (defScope s_law) .none kV23 dc23 pm23 an23 cd23 ct23, fun s v => .of_eq rfl, fun base _ _ => ?_⟩
  exact law_imp hT (ok_law (C := 0) F23 (all_ok D0 D1 D2 D3 D4 D5 D6 D7 D8 D9 D10 D11 D12 D13 D14 D15 D16 D17 D18 D19 D20 D21 D22 mb 230) mb)
theorem walk {l : PySem.W.OpenLaw} {q : Program} {loose : List Str} {XP : (Str → Option Value) → Heap → Prop} {YP : World → Heap → Prop} {d : DefRec} {K : Params → PySem.W.Frag} (hn : l.most = some 63) (hdf : d.params.defaults = [])
    (hY : ∀ (w : World) (h : Heap), YP w h → (K w.params).In h)
    (F : ∀ (w : World) (mg : Str → Option Value) (fa : Addr) (h : Heap), (K w.params).In h → h.Ns mainGlobals mg → mg d.name = some (.ref fa) →
      ∃ fd : FuncData, (∀ (s : Shared) (u : Value), BindsTo s fd ⟨[u], []⟩ [("_law_script", u)]) ∧ ∀ base : Heap, (K w.params).In base → base.Ns mainGlobals mg → FnOk l.prog w (K w.params) mg base CX0 231 fa fd ["_law_script"] (spLaw (K w.params))) :
    PySem.W.WalkO q loose XP YP l.row.toRowW d [] (fun f vs => PySem.call f vs) :=
  L2.walk_of (n := 63) (k := 231) (x := "_law_script") (CX := fun _ => CX0) (sp := fun w => spLaw (K w.params)) hn (by decide) hdf ⟨rfl, by decide, by decide⟩ hY F (fun _ _ a ns hl ho hS => ⟨a, ns, rfl, sqF_of ho hS, hl, fun _ => rfl⟩) fun _ _ _ _ _ z => z
end Cb
open PySem PySem.W PyProof.Rows
set_option maxRecDepth 100000 in
set_option maxHeartbeats 0 in
theorem PySem.Challenge.cw_cutback_k01_free_names_holds : PySem.Challenge.rw_cutback_k01_free_names.Holds := by
  w_on; o_law; k_head; (case hw => w_witness2)
  k_fill
  refine Cb.walk (l := PySem.Challenge.rw_cutback_k01_free_names) rfl rfl (fun w h Y => PySem.W.kIn_of Y) ?F
  case F =>
    intro w mg fa h KX G hmg
    refine' Cb.all_mk Cb.law_true KX G hmg ?a0 ?l0 ?c0 ?k0 ?a1 ?l1 ?c1 ?k1 ?a2 ?l2 ?c2 ?k2 ?a3 ?l3 ?c3 ?k3 ?a4 ?l4 ?c4 ?k4 ?a5 ?l5 ?c5 ?k5 ?a6 ?l6 ?c6 ?k6 ?a7 ?l7 ?c7 ?k7 ?a8 ?l8 ?c8 ?k8 ?a9 ?l9 ?c9 ?k9 ?a10 ?l10 ?c10 ?k10 ?a11 ?l11 ?c11 ?k11 ?a12 ?l12 ?c12 ?k12 ?a13 ?l13 ?c13 ?k13 ?a14 ?l14 ?c14 ?k14 ?a15 ?l15 ?c15 ?k15 ?a16 ?l16 ?c16 ?k16 ?a17 ?l17 ?c17 ?k17 ?a18 ?l18 ?c18 ?k18 ?a19 ?l19 ?c19 ?k19 ?a20 ?l20 ?c20 ?k20 ?a21 ?l21 ?c21 ?k21 ?a22 ?l22 ?c22 ?k22 ?a23 ?l23 ?c23 ?k23 ?z_bool ?z_int ?z_isinstance ?z_len ?z_list ?z_min ?z_range ?z_set ?z_sorted ?z_str ?z_tuple ?z_zip ?z_DEEPEST ?z_LETTERS ?z_LIMIT ?z_MOST_KNOTS ?z_MOST_LETTERS ?z_MOST_MARK
    (case a0 => k_is)
    (case l0 => k_is)
    (case c0 => k_is)
    (case k0 => k_is)
    (case a1 => k_is)
    (case l1 => k_is)
    (case c1 => k_is)
    (case k1 => k_is)
    (case a2 => k_is)
    (case l2 => k_is)
    (case c2 => k_is)
    (case k2 => k_is)
    (case a3 => k_is)
    (case l3 => k_is)
    (case c3 => k_is)
    (case k3 => k_is)
    (case a4 => k_is)
    (case l4 => k_is)
    (case c4 => k_is)
    (case k4 => k_is)
    (case a5 => k_is)
    (case l5 => k_is)
    (case c5 => k_is)
    (case k5 => k_is)
    (case a6 => k_is)
    (case l6 => k_is)
    (case c6 => k_is)
    (case k6 => k_is)
    (case a7 => k_is)
    (case l7 => k_is)
    (case c7 => k_is)
    (case k7 => k_is)
    (case a8 => k_is)
    (case l8 => k_is)
    (case c8 => k_is)
    (case k8 => k_is)
    (case a9 => k_is)
    (case l9 => k_is)
    (case c9 => k_is)
    (case k9 => k_is)
    (case a10 => k_is)
    (case l10 => k_is)
    (case c10 => k_is)
    (case k10 => k_is)
    (case a11 => k_is)
    (case l11 => k_is)
    (case c11 => k_is)
    (case k11 => k_is)
    (case a12 => k_is)
    (case l12 => k_is)
    (case c12 => k_is)
    (case k12 => k_is)
    (case a13 => k_is)
    (case l13 => k_is)
    (case c13 => k_is)
    (case k13 => k_is)
    (case a14 => k_is)
    (case l14 => k_is)
    (case c14 => k_is)
    (case k14 => k_is)
    (case a15 => k_is)
    (case l15 => k_is)
    (case c15 => k_is)
    (case k15 => k_is)
    (case a16 => k_is)
    (case l16 => k_is)
    (case c16 => k_is)
    (case k16 => k_is)
    (case a17 => k_is)
    (case l17 => k_is)
    (case c17 => k_is)
    (case k17 => k_is)
    (case a18 => k_is)
    (case l18 => k_is)
    (case c18 => k_is)
    (case k18 => k_is)
    (case a19 => k_is)
    (case l19 => k_is)
    (case c19 => k_is)
    (case k19 => k_is)
    (case a20 => k_is)
    (case l20 => k_is)
    (case c20 => k_is)
    (case k20 => k_is)
    (case a21 => k_is)
    (case l21 => k_is)
    (case c21 => k_is)
    (case k21 => k_is)
    (case a22 => k_is)
    (case l22 => k_is)
    (case c22 => k_is)
    (case k22 => k_is)
    (case a23 => k_is)
    (case l23 => k_is)
    (case c23 => k_is)
    (case k23 => k_is)
    (case z_bool => k_is)
    (case z_int => k_is)
    (case z_isinstance => k_is)
    (case z_len => k_is)
    (case z_list => k_is)
    (case z_min => k_is)
    (case z_range => k_is)
    (case z_set => k_is)
    (case z_sorted => k_is)
    (case z_str => k_is)
    (case z_tuple => k_is)
    (case z_zip => k_is)
    (case z_DEEPEST => k_is)
    (case z_LETTERS => k_is)
    (case z_LIMIT => k_is)
    (case z_MOST_KNOTS => k_is)
    (case z_MOST_LETTERS => k_is)
    (case z_MOST_MARK => k_is)
#print axioms PySem.Challenge.cw_cutback_k01_free_names_holds
