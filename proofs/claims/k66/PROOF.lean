import PyProof.Rows.All
import Wide.All
import OpenK.AllK
import Wide.FinOn
import HandS.ForMost
import HandS.TupAny
import HandS.Wide
import HandS.Property
import HandS.DictComp
import HandS.IsInst
import HandS.RaiseMore
import KE.GoesEnum
import PySem.Challenge.RW_needonce_k66_numbers_that_are_shown
set_option Elab.async false
set_option linter.all false
set_option maxRecDepth 100000
set_option maxHeartbeats 4000000
/-! NdA: data, store, results; how they lie in the abstract heap; what a step keeps. -/
namespace Nd
open PySem L2

inductive D where
  | non | bl (b : Bool) | int (i : Int) | str (x : Str) | tup (l : List D) | ro (l : List D) | obj (n : Nat)
inductive O where
  | lst (xs : List D) | dct (kvs : List (Key × D)) | ins (c : Nat) (fs : List (Str × D))
abbrev Store := List O
inductive Res (α : Type) where
  | bad | exc (c : Nat) (l : List D) (S : Store) | ok (a : α) (S : Store)
def Res.bind {α β : Type} (r : Res α) (f : α → Store → Res β) : Res β := match r with
  | .bad => .bad
  | .exc c l S => .exc c l S
  | .ok a S => f a S
theorem Res.bind_okE {α β : Type} {a : α} {S : Store} {f : α → Store → Res β} : (Res.ok a S).bind f = f a S := rfl
theorem Res.bind_ok {α β : Type} {r : Res α} {f : α → Store → Res β} {b : β} {S' : Store} (h : r.bind f = .ok b S') : ∃ a S, r = .ok a S ∧ f a S = .ok b S' := by
  cases r with
  | bad => cases h
  | exc c l S => cases h
  | ok a S => exact ⟨a, S, rfl, h⟩
abbrev Env := List (Option D)
abbrev Fn := List D → Store → Res D

variable {K : PySem.W.Frag} {CA : Nat → Addr} {ι ι' ι1 ι2 : Nat → Addr} {N N' N1 N2 : Nat} {H H' H1 H2 : Hp} {S S' : Store}

/-- a list that never changes -/
def SqR (K : PySem.W.Frag) (H : Hp) (a : Addr) (xs : List V) : Prop :=
  (∃ o, H a = some (.frz o (.lst xs))) ∨
    ∃ (o : Obj) (its : Array Value) (n : Nat), K.lookup a = some o ∧ o.cls = .type "list" ∧ o.dict = none ∧ o.data = .seq its n ∧ its.size ≤ sizeLine ∧ Vals xs its.toList
theorem SqR.l {a : Addr} {xs : List V} (h : SqR K H a xs) : SqL K H a xs := by
  rcases h with ⟨o, h⟩ | h
  · exact .inl (.inr ⟨o, h⟩)
  · exact .inr h

mutual
inductive VR (K : PySem.W.Frag) (ι : Nat → Addr) (N : Nat) (H : Hp) : D → V → Prop
  | non : VR K ι N H .non .non
  | bl (b : Bool) : VR K ι N H (.bl b) (.bl b)
  | int (i : Int) : VR K ι N H (.int i) (.int i)
  | str (x : Str) : VR K ι N H (.str x) (.str x)
  | obj (n : Nat) (h : n < N) : VR K ι N H (.obj n) (.ref (ι n))
  | tup {ds : List D} {a : Addr} {vs : List V} (h : SqT K H a vs) (r : VRs K ι N H ds vs) : VR K ι N H (.tup ds) (.ref a)
  | ro {ds : List D} {a : Addr} {vs : List V} (h : SqR K H a vs) (r : VRs K ι N H ds vs) : VR K ι N H (.ro ds) (.ref a)
inductive VRs (K : PySem.W.Frag) (ι : Nat → Addr) (N : Nat) (H : Hp) : List D → List V → Prop
  | nil : VRs K ι N H [] []
  | cons {d : D} {v : V} {ds : List D} {vs : List V} (h : VR K ι N H d v) (r : VRs K ι N H ds vs) : VRs K ι N H (d :: ds) (v :: vs)
end

/-- what a piece of the run keeps -/
structure Ext (K : PySem.W.Frag) (ι : Nat → Addr) (N : Nat) (H : Hp) (ι' : Nat → Addr) (N' : Nat) (H' : Hp) : Prop where
  le : N ≤ N'
  io : ∀ n, n < N → ι' n = ι n
  fr : ∀ a o, H a = some o → (∀ n, n < N → ι n ≠ a) → H' a = some o
  tp : ∀ a xs, SqT K H a xs → SqT K H' a xs
  rp : ∀ a xs, SqR K H a xs → SqR K H' a xs
  nw : ∀ n, N ≤ n → n < N' → H (ι' n) = none
  kp : ∀ a o, H a = some o → ∃ o', H' a = some o'
theorem Ext.refl : Ext K ι N H ι N H :=
  ⟨Nat.le_refl _, fun _ _ => rfl, fun _ _ h _ => h, fun _ _ h => h, fun _ _ h => h, fun _ h1 h2 => absurd h1 (by omega), fun _ o h => ⟨o, h⟩⟩
theorem Ext.none {p : Addr} (x : Ext K ι N H ι' N' H') (h : H' p = none) : H p = none := by
  cases e : H p with
  | none => rfl
  | some o =>
    obtain ⟨o', q⟩ := x.kp _ _ e
    rw [h] at q; cases q
theorem Ext.trans (x : Ext K ι N H ι1 N1 H1) (y : Ext K ι1 N1 H1 ι2 N2 H2) : Ext K ι N H ι2 N2 H2 := by
  refine ⟨Nat.le_trans x.le y.le, fun n h => (y.io n (Nat.lt_of_lt_of_le h x.le)).trans (x.io n h), fun a o h hn => ?_, fun a xs h => y.tp a xs (x.tp a xs h), fun a xs h => y.rp a xs (x.rp a xs h), fun n h1 h2 => ?_, fun a o h => ?_⟩
  · refine y.fr a o (x.fr a o h hn) fun n hn1 q => ?_
    by_cases hN : n < N
    · exact hn n hN ((x.io n hN).symm.trans q)
    · have := x.nw n (by omega) hn1
      rw [q, h] at this; cases this
  · by_cases h3 : n < N1
    · rw [y.io n h3]; exact x.nw n h1 h3
    · exact x.none (y.nw n (by omega) h2)
  · obtain ⟨o1, q⟩ := x.kp a o h
    exact y.kp a o1 q

/-- what is enough for a value to stay what it is -/
structure Wk (K : PySem.W.Frag) (ι : Nat → Addr) (N : Nat) (H : Hp) (ι' : Nat → Addr) (N' : Nat) (H' : Hp) : Prop where
  le : N ≤ N'
  io : ∀ n, n < N → ι' n = ι n
  tp : ∀ a xs, SqT K H a xs → SqT K H' a xs
  rp : ∀ a xs, SqR K H a xs → SqR K H' a xs
theorem Ext.wk (x : Ext K ι N H ι' N' H') : Wk K ι N H ι' N' H' := ⟨x.le, x.io, x.tp, x.rp⟩
mutual
theorem VR.monoW (x : Wk K ι N H ι' N' H') : ∀ {d : D} {v : V}, VR K ι N H d v → VR K ι' N' H' d v
  | _, _, .non => .non
  | _, _, .bl b => .bl b
  | _, _, .int i => .int i
  | _, _, .str y => .str y
  | _, _, .obj n h => by rw [← x.io n h]; exact .obj n (Nat.lt_of_lt_of_le h x.le)
  | _, _, .tup h r => .tup (x.tp _ _ h) (VRs.monoW x r)
  | _, _, .ro h r => .ro (x.rp _ _ h) (VRs.monoW x r)
theorem VRs.monoW (x : Wk K ι N H ι' N' H') : ∀ {ds : List D} {vs : List V}, VRs K ι N H ds vs → VRs K ι' N' H' ds vs
  | _, _, .nil => .nil
  | _, _, .cons h r => .cons (VR.monoW x h) (VRs.monoW x r)
end
theorem VR.mono (x : Ext K ι N H ι' N' H') {d : D} {v : V} (h : VR K ι N H d v) : VR K ι' N' H' d v := h.monoW x.wk
theorem VRs.mono (x : Ext K ι N H ι' N' H') {ds : List D} {vs : List V} (h : VRs K ι N H ds vs) : VRs K ι' N' H' ds vs := h.monoW x.wk
theorem VRs.length : ∀ {ds : List D} {vs : List V}, VRs K ι N H ds vs → ds.length = vs.length
  | _, _, .nil => rfl
  | _, _, .cons _ r => by rw [List.length_cons, List.length_cons, r.length]
theorem VRs.get : ∀ {ds : List D} {vs : List V} {i : Nat} {d : D}, VRs K ι N H ds vs → ds[i]? = some d → ∃ v, vs[i]? = some v ∧ VR K ι N H d v
  | _, _, _, _, .nil, e => by simp at e
  | _, _, 0, _, .cons r _, e => by simp at e; subst e; exact ⟨_, rfl, r⟩
  | _, _, i + 1, d, .cons _ t, e => by
    obtain ⟨u, h1, h2⟩ := VRs.get (i := i) (d := d) t (by simpa using e)
    exact ⟨u, by simpa using h1, h2⟩
theorem VRs.get' : ∀ {ds : List D} {vs : List V} {i : Nat} {v : V}, VRs K ι N H ds vs → vs[i]? = some v → ∃ d, ds[i]? = some d ∧ VR K ι N H d v
  | _, _, _, _, .nil, e => by simp at e
  | _, _, 0, _, .cons r _, e => by simp at e; subst e; exact ⟨_, rfl, r⟩
  | _, _, i + 1, d, .cons _ t, e => by
    obtain ⟨u, h1, h2⟩ := VRs.get' (i := i) (v := d) t (by simpa using e)
    exact ⟨u, by simpa using h1, h2⟩
theorem VRs.append : ∀ {ds es : List D} {vs ws : List V}, VRs K ι N H ds vs → VRs K ι N H es ws → VRs K ι N H (ds ++ es) (vs ++ ws)
  | _, _, _, _, .nil, s => s
  | _, _, _, _, .cons r t, s => .cons r (VRs.append t s)
theorem VRs.take : ∀ {ds : List D} {vs : List V} (n : Nat), VRs K ι N H ds vs → VRs K ι N H (ds.take n) (vs.take n)
  | _, _, 0, _ => .nil
  | _, _, _ + 1, .nil => .nil
  | _, _, n + 1, .cons r t => .cons r (VRs.take n t)
theorem VRs.drop : ∀ {ds : List D} {vs : List V} (n : Nat), VRs K ι N H ds vs → VRs K ι N H (ds.drop n) (vs.drop n)
  | _, _, 0, r => r
  | _, _, _ + 1, .nil => .nil
  | _, _, n + 1, .cons _ t => VRs.drop n t
theorem VRs.set {d : D} {v : V} (r : VR K ι N H d v) : ∀ {ds : List D} {vs : List V} (i : Nat), VRs K ι N H ds vs → VRs K ι N H (ds.set i d) (vs.set i v)
  | _, _, _, .nil => .nil
  | _, _, 0, .cons _ t => .cons r t
  | _, _, i + 1, .cons q t => .cons q (VRs.set r i t)
theorem VRs.one {d : D} {v : V} (r : VR K ι N H d v) : VRs K ι N H [d] [v] := .cons r .nil
theorem VRs.dropLast : ∀ {ds : List D} {vs : List V}, VRs K ι N H ds vs → VRs K ι N H ds.dropLast vs.dropLast
  | _, _, .nil => .nil
  | _, _, .cons _ .nil => .nil
  | _, _, .cons r (.cons q t) => .cons r (VRs.dropLast (.cons q t))
theorem VRs.nil_iff {ds : List D} {vs : List V} (r : VRs K ι N H ds vs) : vs = [] ↔ ds = [] := by
  cases r with
  | nil => simp
  | cons h t => simp
theorem VRs.ints : ∀ (ns : List Int), VRs K ι N H (ns.map D.int) (ns.map V.int)
  | [] => .nil
  | n :: ns => .cons (.int n) (VRs.ints ns)

/-- pairs: keys or names with values -/
abbrev PR (K : PySem.W.Frag) (ι : Nat → Addr) (N : Nat) (H : Hp) {κ : Type} : List (κ × D) → List (κ × V) → Prop := Paired fun p q => p.1 = q.1 ∧ VR K ι N H p.2 q.2
theorem PR.mono {κ : Type} {l : List (κ × D)} {m : List (κ × V)} (x : Ext K ι N H ι' N' H') (h : PR K ι N H l m) : PR K ι' N' H' l m := Paired.mapP h fun _ _ z => ⟨z.1, z.2.mono x⟩

def RO (K : PySem.W.Frag) (CA : Nat → Addr) (ι : Nat → Addr) (N : Nat) (H : Hp) (a : Addr) : O → Prop
  | .lst xs => ∃ vs, VRs K ι N H xs vs ∧ H a = some (.lst vs)
  | .dct kvs => ∃ ws, PR K ι N H kvs ws ∧ H a = some (.dK ws)
  | .ins c fs => ∃ dx ws, PR K ι N H fs ws ∧ H a = some (.ins (CA c) dx ws)
structure RS (K : PySem.W.Frag) (CA : Nat → Addr) (ι : Nat → Addr) (S : Store) (H : Hp) : Prop where
  ob : ∀ n o, S[n]? = some o → RO K CA ι S.length H (ι n) o
  inj : ∀ m n, m < S.length → n < S.length → ι m = ι n → m = n
theorem RO.kind {a : Addr} {o : O} (h : RO K CA ι N H a o) : ∃ u, H a = some u ∧ (∀ xs, u ≠ .tup xs) ∧ (∀ ob v, u ≠ .frz ob v) := by
  cases o with
  | lst xs => obtain ⟨vs, _, e⟩ := h; exact ⟨_, e, (by intro _ z; cases z), (by intro _ _ z; cases z)⟩
  | dct kvs => obtain ⟨vs, _, e⟩ := h; exact ⟨_, e, (by intro _ z; cases z), (by intro _ _ z; cases z)⟩
  | ins c fs => obtain ⟨dx, vs, _, e⟩ := h; exact ⟨_, e, (by intro _ z; cases z), (by intro _ _ z; cases z)⟩
theorem RS.kind (r : RS K CA ι S H) {n : Nat} (h : n < S.length) : ∃ u, H (ι n) = some u ∧ (∀ xs, u ≠ .tup xs) ∧ (∀ ob v, u ≠ .frz ob v) :=
  (r.ob n S[n] (List.getElem?_eq_getElem h)).kind
theorem RO.monoW {a : Addr} {o : O} (x : Wk K ι N H ι' N' H') (e : H' a = H a) (h : RO K CA ι N H a o) : RO K CA ι' N' H' a o := by
  cases o with
  | lst xs => obtain ⟨vs, r, q⟩ := h; exact ⟨vs, r.monoW x, e.trans q⟩
  | dct kvs => obtain ⟨vs, r, q⟩ := h; exact ⟨vs, Paired.mapP r fun _ _ z => ⟨z.1, z.2.monoW x⟩, e.trans q⟩
  | ins c fs => obtain ⟨dx, vs, r, q⟩ := h; exact ⟨dx, vs, Paired.mapP r fun _ _ z => ⟨z.1, z.2.monoW x⟩, e.trans q⟩
theorem RO.mono {a : Addr} {o : O} (x : Ext K ι N H ι' N' H') (e : H' a = H a) (h : RO K CA ι N H a o) : RO K CA ι' N' H' a o := h.monoW x.wk e
theorem RS.fresh (r : RS K CA ι S H) {p : Addr} (hp : H p = none) {n : Nat} (h : n < S.length) : ι n ≠ p := fun e => by
  obtain ⟨u, q, _⟩ := r.kind h
  rw [e, hp] at q; cases q

/-- something new that the store does not know -/
theorem ext_new {p : Addr} {u : HO} (hp : H p = none) : Ext K ι N H ι N (upd H p u) := by
  refine ⟨Nat.le_refl _, fun _ _ => rfl, fun a o h _ => ?_, fun a xs h => ?_, fun a xs h => ?_, fun _ h1 h2 => absurd h1 (by omega), fun a o h => ⟨o, ?_⟩⟩
  · rw [upd_ne (ne_of_none h hp)]; exact h
  · rcases h with (h | ⟨ob, h⟩) | h
    · exact .inl (.inl (by rw [upd_ne (ne_of_none h hp)]; exact h))
    · exact .inl (.inr ⟨ob, by rw [upd_ne (ne_of_none h hp)]; exact h⟩)
    · exact .inr h
  · rcases h with ⟨ob, h⟩ | h
    · exact .inl ⟨ob, by rw [upd_ne (ne_of_none h hp)]; exact h⟩
    · exact .inr h
  · rw [upd_ne (ne_of_none h hp)]; exact h
theorem RS.new (r : RS K CA ι S H) {p : Addr} {u : HO} (hp : H p = none) : RS K CA ι S (upd H p u) :=
  ⟨fun n o e => (r.ob n o e).mono (ext_new hp) (upd_ne (r.fresh hp (List.getElem?_eq_some_iff.mp e).1)), r.inj⟩
/-- what lies outside of the store may be written -/
theorem ext_out {p : Addr} {u w : HO} (hp : H p = some u) (hn : ∀ n, n < N → ι n ≠ p) (k1 : ∀ xs, u ≠ .tup xs) (k2 : ∀ ob v, u ≠ .frz ob v) : 
    (∀ a xs, SqT K H a xs → SqT K (upd H p w) a xs) ∧ (∀ a xs, SqR K H a xs → SqR K (upd H p w) a xs) := by
  have ne1 : ∀ {a xs}, H a = some (.tup xs) → a ≠ p := fun h e => by rw [e, hp] at h; cases h; exact k1 _ rfl
  have ne2 : ∀ {a ob v}, H a = some (.frz ob v) → a ≠ p := fun h e => by rw [e, hp] at h; cases h; exact k2 _ _ rfl
  refine ⟨fun a xs h => ?_, fun a xs h => ?_⟩
  · rcases h with (h | ⟨ob, h⟩) | h
    · exact .inl (.inl (by rw [upd_ne (ne1 h)]; exact h))
    · exact .inl (.inr ⟨ob, by rw [upd_ne (ne2 h)]; exact h⟩)
    · exact .inr h
  · rcases h with ⟨ob, h⟩ | h
    · exact .inl ⟨ob, by rw [upd_ne (ne2 h)]; exact h⟩
    · exact .inr h
/-- a thing of ours that the store does not know, made on the way, is written at the end -/
theorem ext_tmp {p : Addr} {u u' w : HO} (hp : H p = none) (x : Ext K ι N (upd H p u) ι' N' H1) (hP : H1 p = some u') (hn : ∀ n, n < N' → ι' n ≠ p) (k1 : ∀ xs, u' ≠ .tup xs) (k2 : ∀ ob v, u' ≠ .frz ob v) :
    Ext K ι N H ι' N' (upd H1 p w) ∧ Wk K ι' N' H1 ι' N' (upd H1 p w) := by
  obtain ⟨t1, t2⟩ := ext_out (K := K) (ι := ι') (N := N') (w := w) hP hn k1 k2
  have e0 : Ext K ι N H ι N (upd H p u) := ext_new hp
  refine ⟨⟨x.le, x.io, fun a o h hn' => ?_, fun a xs h => t1 a xs (x.tp a xs (e0.tp a xs h)), fun a xs h => t2 a xs (x.rp a xs (e0.rp a xs h)), fun n h1 h2 => ?_, fun a o h => ?_⟩, ⟨Nat.le_refl _, fun _ _ => rfl, t1, t2⟩⟩
  · have ne := ne_of_none h hp
    rw [upd_ne ne]
    exact x.fr a o (by rw [upd_ne ne]; exact h) hn'
  · have := x.nw n h1 h2
    rw [upd_ne (hn n h2)] at this
    exact this
  · have ne := ne_of_none h hp
    rw [upd_ne ne]
    exact x.kp a o (by rw [upd_ne ne]; exact h)
theorem RS.out {p : Addr} {w : HO} (r : RS K CA ι S H) (hn : ∀ n, n < S.length → ι n ≠ p) (x : Wk K ι S.length H ι S.length (upd H p w)) : RS K CA ι S (upd H p w) :=
  ⟨fun n o e => (r.ob n o e).monoW x (upd_ne (hn n (List.getElem?_eq_some_iff.mp e).1)), r.inj⟩
/-- an object of the store is written -/
theorem ext_set (r : RS K CA ι S H) {n : Nat} (hn : n < S.length) {w : HO} : Ext K ι S.length H ι S.length (upd H (ι n) w) := by
  obtain ⟨u, hu, k1, k2⟩ := r.kind hn
  have ne1 : ∀ {a xs}, H a = some (.tup xs) → a ≠ ι n := fun h e => by rw [e, hu] at h; cases h; exact k1 _ rfl
  have ne2 : ∀ {a ob v}, H a = some (.frz ob v) → a ≠ ι n := fun h e => by rw [e, hu] at h; cases h; exact k2 _ _ rfl
  refine ⟨Nat.le_refl _, fun _ _ => rfl, fun a o h q => ?_, fun a xs h => ?_, fun a xs h => ?_, fun _ h1 h2 => absurd h1 (by omega), fun a o h => ?_⟩
  · rw [upd_ne (Ne.symm (q n hn))]; exact h
  · rcases h with (h | ⟨ob, h⟩) | h
    · exact .inl (.inl (by rw [upd_ne (ne1 h)]; exact h))
    · exact .inl (.inr ⟨ob, by rw [upd_ne (ne2 h)]; exact h⟩)
    · exact .inr h
  · rcases h with ⟨ob, h⟩ | h
    · exact .inl ⟨ob, by rw [upd_ne (ne2 h)]; exact h⟩
    · exact .inr h
  · by_cases e : a = ι n
    · exact ⟨w, by rw [e, upd_same]⟩
    · exact ⟨o, by rw [upd_ne e]; exact h⟩
theorem RS.set (r : RS K CA ι S H) {n : Nat} (hn : n < S.length) {w : HO} {o : O} (ho : RO K CA ι S.length (upd H (ι n) w) (ι n) o) : RS K CA ι (S.set n o) (upd H (ι n) w) := by
  refine ⟨fun m q e => ?_, fun m k h1 h2 => r.inj m k (by simpa using h1) (by simpa using h2)⟩
  rw [List.length_set]
  by_cases hm : n = m
  · subst hm
    rw [List.getElem?_set_self hn] at e; cases e
    exact ho
  · rw [List.getElem?_set_ne hm] at e
    have hml := (List.getElem?_eq_some_iff.mp e).1
    exact (r.ob m q e).mono (ext_set r hn) (upd_ne fun z => hm (r.inj m n hml hn z).symm)
/-- an object joins the store -/
def put (ι : Nat → Addr) (n : Nat) (p : Addr) : Nat → Addr := fun m => if m = n then p else ι m
theorem put_same {p : Addr} {n : Nat} : put ι n p n = p := if_pos rfl
theorem put_ne {p : Addr} {n m : Nat} (h : m ≠ n) : put ι n p m = ι m := if_neg h
theorem ext_join (x : Ext K ι N H ι' N' H') {p : Addr} (h0 : H p = none) (h1 : ∃ u, H' p = some u) : Ext K ι N H (put ι' N' p) (N' + 1) H' := by
  refine ⟨Nat.le_succ_of_le x.le, fun n h => by rw [put_ne (by have := x.le; omega)]; exact x.io n h, x.fr, x.tp, x.rp, fun n h1 h2 => ?_, x.kp⟩
  by_cases e : n = N'
  · rw [e, put_same]; exact h0
  · rw [put_ne e]; exact x.nw n h1 (by omega)
theorem VR.join {p : Addr} {d : D} {v : V} (h : VR K ι N H d v) : VR K (put ι N p) (N + 1) H d v := by
  induction h using VR.rec (motive_2 := fun ds vs _ => VRs K (put ι N p) (N + 1) H ds vs) with
  | non => exact .non
  | bl b => exact .bl b
  | int i => exact .int i
  | str x => exact .str x
  | obj n h =>
    have e : put ι N p n = ι n := put_ne (by omega)
    rw [← e]; exact .obj n (by omega)
  | tup h _ ih => exact .tup h ih
  | ro h _ ih => exact .ro h ih
  | nil => exact .nil
  | cons _ _ ih1 ih2 => exact .cons ih1 ih2
theorem VRs.join {p : Addr} : ∀ {ds : List D} {vs : List V}, VRs K ι N H ds vs → VRs K (put ι N p) (N + 1) H ds vs
  | _, _, .nil => .nil
  | _, _, .cons h r => .cons h.join r.join
theorem PR.join {κ : Type} {p : Addr} {l : List (κ × D)} {m : List (κ × V)} (h : PR K ι N H l m) : PR K (put ι N p) (N + 1) H l m := Paired.mapP h fun _ _ z => ⟨z.1, z.2.join⟩
theorem RO.join {p a : Addr} {o : O} (h : RO K CA ι N H a o) : RO K CA (put ι N p) (N + 1) H a o := by
  cases o with
  | lst xs => obtain ⟨vs, r, q⟩ := h; exact ⟨vs, r.join, q⟩
  | dct kvs => obtain ⟨vs, r, q⟩ := h; exact ⟨vs, r.join, q⟩
  | ins c fs => obtain ⟨dx, vs, r, q⟩ := h; exact ⟨dx, vs, r.join, q⟩
theorem RS.join (r : RS K CA ι S H) {p : Addr} {o : O} (hp : ∀ n, n < S.length → ι n ≠ p) (ho : RO K CA ι S.length H p o) : RS K CA (put ι S.length p) (S ++ [o]) H := by
  refine ⟨fun n q e => ?_, fun m n h1 h2 e => ?_⟩
  · rw [List.length_append, List.length_singleton]
    by_cases hn : n < S.length
    · rw [List.getElem?_append_left hn] at e
      rw [put_ne (by omega)]
      exact (r.ob n q e).join
    · have hl := (List.getElem?_eq_some_iff.mp e).1
      rw [List.length_append, List.length_singleton] at hl
      have hn' : n = S.length := by omega
      subst hn'
      rw [List.getElem?_concat_length] at e; cases e
      rw [put_same]
      exact ho.join
  · rw [List.length_append, List.length_singleton] at h1 h2
    by_cases hm : m = S.length
    · by_cases hn : n = S.length
      · rw [hm, hn]
      · rw [hm, put_same, put_ne hn] at e
        exact absurd e.symm (hp n (by omega))
    · by_cases hn : n = S.length
      · rw [hn, put_same, put_ne hm] at e
        exact absurd e (hp m (by omega))
      · rw [put_ne hm, put_ne hn] at e
        exact r.inj m n (by omega) (by omega) e

/-- the slots -/
structure RE (K : PySem.W.Frag) (ι : Nat → Addr) (N : Nat) (H : Hp) (env : Env) (σ : St) : Prop where
  len : env.length = σ.length
  get : ∀ (i : Nat) (d : D), env[i]? = some (some d) → ∃ v : V, σ[i]? = some (some v) ∧ VR K ι N H d v
theorem RE.mono {env : Env} {σ : St} (x : Ext K ι N H ι' N' H') (h : RE K ι N H env σ) : RE K ι' N' H' env σ :=
  ⟨h.len, fun i d e => let ⟨v, a, b⟩ := h.get i d e; ⟨v, a, b.mono x⟩⟩
theorem RE.set {env : Env} {σ : St} (h : RE K ι N H env σ) {d : D} {v : V} (i : Nat) (r : VR K ι N H d v) : RE K ι N H (env.set i (some d)) (σ.set i (some v)) := by
  refine ⟨by rw [List.length_set, List.length_set]; exact h.len, fun j e q => ?_⟩
  by_cases hj : i = j
  · subst hj
    have hl : i < env.length := by
      have := (List.getElem?_eq_some_iff.mp q).1
      rwa [List.length_set] at this
    rw [List.getElem?_set_self hl] at q; cases q
    exact ⟨v, by rw [List.getElem?_set_self (by rw [← h.len]; exact hl)], r⟩
  · rw [List.getElem?_set_ne hj] at q
    rw [List.getElem?_set_ne hj]
    exact h.get j e q
theorem RE.start {ds : List D} {vs : List V} {Ns : List Str} (r : VRs K ι N H ds vs) : RE K ι N H (ds.map some ++ List.replicate (Ns.length - ds.length) none) (L2.start Ns vs) := by
  have hl := r.length
  refine ⟨by unfold L2.start; simp [hl], fun i d e => ?_⟩
  unfold L2.start
  by_cases hi : i < ds.length
  · rw [List.getElem?_append_left (by simpa using hi), List.getElem?_map] at e
    cases q : ds[i]? with
    | none => rw [q] at e; cases e
    | some d' =>
      rw [q] at e; cases e
      obtain ⟨v, h1, h2⟩ := r.get q
      exact ⟨v, by rw [List.getElem?_append_left (by simp; omega), List.getElem?_map, h1]; rfl, h2⟩
  · rw [List.getElem?_append_right (by simpa using hi), List.getElem?_replicate] at e
    split at e <;> cases e
end Nd

/-! NdB: readings by small computations; expressions, tests, statements. -/
namespace Nd
open PySem L2

abbrev ME := Env → Store → Res D
abbrev MA := Env → Store → Res (List D)
abbrev MT := Env → Store → Res Bool
inductive Fl where
  | nx | bk | ct | rt (d : D)
abbrev MS := Env → Store → Res (Fl × Env)

section
variable (K : PySem.W.Frag) (CA : Nat → Addr)
def liE (m : ME) : TE := fun σ H Q => ∃ (ι : Nat → Addr) (S : Store) (env : Env) (d : D) (S' : Store), RS K CA ι S H ∧ RE K ι S.length H env σ ∧ m env S = .ok d S' ∧
  ∀ ι' v H', Ext K ι S.length H ι' S'.length H' → RS K CA ι' S' H' → VR K ι' S'.length H' d v → Q v H'
def liT (m : MT) : TT := fun σ H Q => ∃ (ι : Nat → Addr) (S : Store) (env : Env) (d : Bool) (S' : Store), RS K CA ι S H ∧ RE K ι S.length H env σ ∧ m env S = .ok d S' ∧
  ∀ ι' H', Ext K ι S.length H ι' S'.length H' → RS K CA ι' S' H' → Q d H'
def liA (m : MA) : TA := fun σ H Q => ∃ (ι : Nat → Addr) (S : Store) (env : Env) (d : List D) (S' : Store), RS K CA ι S H ∧ RE K ι S.length H env σ ∧ m env S = .ok d S' ∧
  ∀ ι' v H', Ext K ι S.length H ι' S'.length H' → RS K CA ι' S' H' → VRs K ι' S'.length H' d v → Q v H'
/-- a new list that nothing else holds -/
def liL (m : MA) : TE := fun σ H Q => ∃ (ι : Nat → Addr) (S : Store) (env : Env) (d : List D) (S' : Store), RS K CA ι S H ∧ RE K ι S.length H env σ ∧ m env S = .ok d S' ∧
  ∀ ι' a vs H', Ext K ι S.length H ι' S'.length H' → RS K CA ι' S' H' → VRs K ι' S'.length H' d vs → H' a = some (.lst vs) → (∀ n, n < S'.length → ι' n ≠ a) → H a = none → Q (.ref a) H'
def liS (m : MS) : TS := fun Dn σ H => ∃ (ι : Nat → Addr) (S : Store) (env : Env) (fl : Fl) (env' : Env) (S' : Store), RS K CA ι S H ∧ RE K ι S.length H env σ ∧ m env S = .ok (fl, env') S' ∧
  match fl with
  | .nx => ∀ ι' σ' H', Ext K ι S.length H ι' S'.length H' → RS K CA ι' S' H' → RE K ι' S'.length H' env' σ' → Dn.nx σ' H'
  | .bk => ∀ ι' σ' H', Ext K ι S.length H ι' S'.length H' → RS K CA ι' S' H' → RE K ι' S'.length H' env' σ' → Dn.bk σ' H'
  | .ct => ∀ ι' σ' H', Ext K ι S.length H ι' S'.length H' → RS K CA ι' S' H' → RE K ι' S'.length H' env' σ' → Dn.ct σ' H'
  | .rt d => ∀ ι' v H', Ext K ι S.length H ι' S'.length H' → RS K CA ι' S' H' → VR K ι' S'.length H' d v → Dn.rt v H'
/-- what a def of np parameters promises -/
def spF (np : Nat) (f : Fn) : Sp := fun vs H Q _ => ∃ (ι : Nat → Addr) (S : Store) (ds : List D) (d : D) (S' : Store), RS K CA ι S H ∧ VRs K ι S.length H ds vs ∧ ds.length = np ∧ f ds S = .ok d S' ∧
  ∀ ι' v H', Ext K ι S.length H ι' S'.length H' → RS K CA ι' S' H' → VR K ι' S'.length H' d v → Q v H'
end

theorem pe_imp {X : Cx} {e : Expr} {t t' : TE} (p : PE X e t) (h : ∀ σ H Q, t' σ H Q → t σ H Q) : PE X e t' := ⟨fun pins s σ H Q I q => p.run pins s σ H Q I (h σ H Q q)⟩
theorem pt_imp {X : Cx} {e : Expr} {t t' : TT} (p : PT X e t) (h : ∀ σ H Q, t' σ H Q → t σ H Q) : PT X e t' := ⟨fun pins s σ H Q I q => p.run pins s σ H Q I (h σ H Q q)⟩
theorem pw_imp {X : Cx} {e : Expr} {t t' : TT} (p : PW X e t) (h : ∀ σ H Q, t' σ H Q → t σ H Q) : PW X e t' := ⟨fun w pins s σ H Q I q => p.run w pins s σ H Q I (h σ H Q q)⟩
theorem pa_imp {X : Cx} {e : List Expr} {t t' : TA} (p : PA X e t) (h : ∀ σ H Q, t' σ H Q → t σ H Q) : PA X e t' := ⟨fun pos pins s σ H Q I q => p.run pos pins s σ H Q I (h σ H Q q)⟩
theorem ps_imp {X : Cx} {e : Stmt} {t t' : TS} (p : PS X e t) (h : ∀ Dn σ H, t' Dn σ H → t Dn σ H) : PS X e t' := ⟨fun pins s σ H Dn I q => p.run pins s σ H Dn I (h Dn σ H q)⟩
theorem pss_imp {X : Cx} {e : List Stmt} {t t' : TS} (p : PSs X e t) (h : ∀ Dn σ H, t' Dn σ H → t Dn σ H) : PSs X e t' := ⟨fun pins s σ H Dn I q => p.run pins s σ H Dn I (h Dn σ H q)⟩

section
variable {K : PySem.W.Frag} {CA : Nat → Addr} {ι : Nat → Addr} {S S1 : Store} {H : Hp} {σ : St} {env : Env} {d : D}
theorem liE_at {m : ME} {R : VK} (rs : RS K CA ι S H) (re : RE K ι S.length H env σ) (e : m env S = .ok d S1)
    (h : ∀ ι1 x H1, Ext K ι S.length H ι1 S1.length H1 → RS K CA ι1 S1 H1 → RE K ι1 S1.length H1 env σ → VR K ι1 S1.length H1 d x → R x H1) : liE K CA m σ H R :=
  ⟨ι, S, env, d, S1, rs, re, e, fun ι' v H' x r vr => h ι' v H' x r (re.mono x) vr⟩
theorem liA_at {m : MA} {R : List V → Hp → Prop} {ds : List D} (rs : RS K CA ι S H) (re : RE K ι S.length H env σ) (e : m env S = .ok ds S1)
    (h : ∀ ι1 x H1, Ext K ι S.length H ι1 S1.length H1 → RS K CA ι1 S1 H1 → RE K ι1 S1.length H1 env σ → VRs K ι1 S1.length H1 ds x → R x H1) : liA K CA m σ H R :=
  ⟨ι, S, env, ds, S1, rs, re, e, fun ι' v H' x r vr => h ι' v H' x r (re.mono x) vr⟩
theorem liT_at {m : MT} {R : Bool → Hp → Prop} {b : Bool} (rs : RS K CA ι S H) (re : RE K ι S.length H env σ) (e : m env S = .ok b S1)
    (h : ∀ ι1 H1, Ext K ι S.length H ι1 S1.length H1 → RS K CA ι1 S1 H1 → RE K ι1 S1.length H1 env σ → R b H1) : liT K CA m σ H R :=
  ⟨ι, S, env, b, S1, rs, re, e, fun ι' H' x r => h ι' H' x r (re.mono x)⟩
theorem liL_at {m : MA} {R : VK} {ds : List D} (rs : RS K CA ι S H) (re : RE K ι S.length H env σ) (e : m env S = .ok ds S1)
    (h : ∀ ι1 a vs H1, Ext K ι S.length H ι1 S1.length H1 → RS K CA ι1 S1 H1 → RE K ι1 S1.length H1 env σ → VRs K ι1 S1.length H1 ds vs → H1 a = some (.lst vs) → (∀ n, n < S1.length → ι1 n ≠ a) → H a = none → R (.ref a) H1) : liL K CA m σ H R :=
  ⟨ι, S, env, ds, S1, rs, re, e, fun ι' a vs H' x r vr h1 h2 h3 => h ι' a vs H' x r (re.mono x) vr h1 h2 h3⟩
end

/-! ### names and constants -/
def mC (d : D) : ME := fun _ S => .ok d S
def mVar (i : Nat) : ME := fun env S => match env[i]? with
  | some (some d) => .ok d S
  | _ => .bad
section
variable {X : Cx} {CA : Nat → Addr}
theorem re_int {i : Int} {j pos} : PE X (.Constant (.int i) j pos) (liE X.K CA (mC (.int i))) := pe_imp pe_int fun σ H Q ⟨ι, S, env, d, S', rs, re, e, q⟩ => by
  cases e; exact q ι _ H Ext.refl rs (.int i)
theorem re_bl {b : Bool} {j pos} : PE X (.Constant (.bool b) j pos) (liE X.K CA (mC (.bl b))) := pe_imp pe_bl fun σ H Q ⟨ι, S, env, d, S', rs, re, e, q⟩ => by
  cases e; exact q ι _ H Ext.refl rs (.bl b)
theorem re_non {j pos} : PE X (.Constant .none j pos) (liE X.K CA (mC .non)) := pe_imp pe_non fun σ H Q ⟨ι, S, env, d, S', rs, re, e, q⟩ => by
  cases e; exact q ι _ H Ext.refl rs .non
theorem re_str {x : Str} {j pos} : PE X (.Constant (.str x) j pos) (liE X.K CA (mC (.str x))) := pe_imp pe_str fun σ H Q ⟨ι, S, env, d, S', rs, re, e, q⟩ => by
  cases e; exact q ι _ H Ext.refl rs (.str x)
theorem re_var {i : Nat} {x : Str} {pos : Pos} (hN : X.N[i]? = some x) (hv : Vis X.env.scope x) (hd : (x == ("__debug__" : Str)) = false := by decide) (hcd : (x == ("__classdict__" : Str)) = false := by decide) :
    PE X (.Name x pos) (liE X.K CA (mVar i)) := pe_imp (pe_var hN hv hd hcd) fun σ H Q ⟨ι, S, env, d, S', rs, re, e, q⟩ => by
  unfold mVar at e
  split at e
  · rename_i d' hd'
    cases e
    obtain ⟨v, h1, h2⟩ := re.get i d hd'
    exact ⟨v, h1, q ι v H Ext.refl rs h2⟩
  · cases e
/-- a constant of the module -/
theorem re_glob {x : Str} {d : D} {v : V} {u : Value} {pos : Pos} (hg : Gl X x) (hm : X.mg x = some u) (r : RelV v u) (hv : ∀ ι N H, VR X.K ι N H d v) (hd : (x == ("__debug__" : Str)) = false := by decide) : PE X (.Name x pos) (liE X.K CA (mC d)) :=
  pe_imp (pe_glob hg hm r hd) fun σ H Q ⟨ι, S, env, d', S', rs, re, e, q⟩ => by
    cases e; exact q ι _ H Ext.refl rs (hv _ _ _)

/-! ### operators -/
abbrev O2 := D → D → Store → Res D
abbrev O1 := D → Store → Res D
def Sim2 (K : PySem.W.Frag) (CA : Nat → Addr) (r : R2) (o : O2) : Prop := ∀ (ι : Nat → Addr) (S : Store) (H : Hp) (x y : V) (a b d : D) (S' : Store) (Q : VK), RS K CA ι S H → VR K ι S.length H a x → VR K ι S.length H b y → o a b S = .ok d S' →
  (∀ ι' v H', Ext K ι S.length H ι' S'.length H' → RS K CA ι' S' H' → VR K ι' S'.length H' d v → Q v H') → r x y H Q
def Sim1 (K : PySem.W.Frag) (CA : Nat → Addr) (r : V → Hp → VK → Prop) (o : O1) : Prop := ∀ (ι : Nat → Addr) (S : Store) (H : Hp) (x : V) (a d : D) (S' : Store) (Q : VK), RS K CA ι S H → VR K ι S.length H a x → o a S = .ok d S' →
  (∀ ι' v H', Ext K ι S.length H ι' S'.length H' → RS K CA ι' S' H' → VR K ι' S'.length H' d v → Q v H') → r x H Q
def SimN (K : PySem.W.Frag) (CA : Nat → Addr) (r : List V → Hp → VK → Prop) (o : Fn) : Prop := ∀ (ι : Nat → Addr) (S : Store) (H : Hp) (xs : List V) (as : List D) (d : D) (S' : Store) (Q : VK), RS K CA ι S H → VRs K ι S.length H as xs → o as S = .ok d S' →
  (∀ ι' v H', Ext K ι S.length H ι' S'.length H' → RS K CA ι' S' H' → VR K ι' S'.length H' d v → Q v H') → r xs H Q
def mOp2 (o : O2) (a b : ME) : ME := fun env S => (a env S).bind fun x S1 => (b env S1).bind fun y S2 => o x y S2
def mOp1 (o : O1) (a : ME) : ME := fun env S => (a env S).bind fun x S1 => o x S1
def mNil : MA := fun _ S => .ok [] S
def mCons (a : ME) (r : MA) : MA := fun env S => (a env S).bind fun x S1 => (r env S1).bind fun xs S2 => .ok (x :: xs) S2
def mApp (o : Fn) (a : MA) : ME := fun env S => (a env S).bind fun x S1 => o x S1
theorem tOp_of {r : R2} {o : O2} {ma mb : ME} (hs : Sim2 X.K CA r o) {σ : St} {H : Hp} {Q : VK} (h : liE X.K CA (mOp2 o ma mb) σ H Q) : tOp r (liE X.K CA ma) (liE X.K CA mb) σ H Q := by
  obtain ⟨ι, S, env, d, S', rs, re, e, q⟩ := h
  obtain ⟨a, S1, e1, e⟩ := Res.bind_ok e
  obtain ⟨b, S2, e2, e⟩ := Res.bind_ok e
  refine liE_at rs re e1 fun ι1 x H1 x1 rs1 re1 v1 => liE_at rs1 re1 e2 fun ι2 y H2 x2 rs2 re2 v2 => ?_
  exact hs _ _ _ _ _ _ _ _ _ _ rs2 (v1.mono x2) v2 e fun ι' v H' x3 => q ι' v H' ((x1.trans x2).trans x3)
variable {a b : Expr} {ma mb : ME} {pos : Pos}
theorem re_op {op : Operator} {r : R2} {o : O2} (ho : OpR X (binaryOp op) r) (hs : Sim2 X.K CA r o) (ha : PE X a (liE X.K CA ma)) (hb : PE X b (liE X.K CA mb)) : PE X (.BinOp a op b pos) (liE X.K CA (mOp2 o ma mb)) :=
  pe_imp (pe_op ho ha hb) fun σ H Q h => tOp_of hs h
theorem re_cmp {op : CmpOp} {r : R2} {o : O2} (ho : OpR X (compareOp op) r) (hs : Sim2 X.K CA r o) (ha : PE X a (liE X.K CA ma)) (hb : PE X b (liE X.K CA mb)) (hm : behindInMarks op b = false) : PE X (.Compare a [op] [b] pos) (liE X.K CA (mOp2 o ma mb)) :=
  pe_imp (pe_cmpR ho ha hb hm) fun σ H Q h => tOp_of hs h
theorem re_ix {r : R2} {o : O2} (ho : IxR X r) (hs : Sim2 X.K CA r o) (ha : PE X a (liE X.K CA ma)) (hb : PE X b (liE X.K CA mb)) (hp : PlainIx b) : PE X (.Subscript a b pos) (liE X.K CA (mOp2 o ma mb)) :=
  pe_imp (pe_ix ho ha hb hp) fun σ H Q h => tOp_of hs h
theorem re_un {op : UnaryOp} {r : V → Hp → VK → Prop} {o : O1} (ho : UnR X (unaryOp op) r) (hs : Sim1 X.K CA r o) (ha : PE X a (liE X.K CA ma)) : PE X (.UnaryOp op a pos) (liE X.K CA (mOp1 o ma)) :=
  pe_imp (pe_un ho ha) fun σ H Q ⟨ι, S, env, d, S', rs, re, e, q⟩ => by
    obtain ⟨x, S1, e1, e⟩ := Res.bind_ok e
    refine liE_at rs re e1 fun ι1 x H1 x1 rs1 re1 v1 => ?_
    exact hs _ _ _ _ _ _ _ _ rs1 v1 e fun ι' v H' x2 => q ι' v H' (x1.trans x2)
/-! arguments -/
variable {es : List Expr} {mr : MA}
theorem ra_nil : PA X [] (liA X.K CA mNil) := pa_imp pa_nil fun σ H Q ⟨ι, S, env, d, S', rs, re, e, q⟩ => by
  cases e; exact q ι _ H Ext.refl rs .nil
theorem ra_cons (ha : PE X a (liE X.K CA ma)) (hr : PA X es (liA X.K CA mr)) (hs : starEach (a :: es) X.env = (false, eval a X.env) :: starEach es X.env := by rfl) : PA X (a :: es) (liA X.K CA (mCons ma mr)) :=
  pa_imp (pa_cons ha hr hs) fun σ H Q ⟨ι, S, env, d, S', rs, re, e, q⟩ => by
    obtain ⟨x, S1, e1, e⟩ := Res.bind_ok e
    obtain ⟨xs, S2, e2, e⟩ := Res.bind_ok e
    cases e
    refine liE_at rs re e1 fun ι1 x H1 x1 rs1 re1 v1 => liA_at rs1 re1 e2 fun ι2 y H2 x2 rs2 re2 v2 => ?_
    exact q ι2 _ H2 (x1.trans x2) rs2 (.cons (v1.mono x2) v2)
theorem tCB_of {r : List V → Hp → VK → Prop} {o : Fn} (hs : SimN X.K CA r o) {σ : St} {H : Hp} {Q : VK} (h : liE X.K CA (mApp o mr) σ H Q) : tCB r (liA X.K CA mr) σ H Q := by
  obtain ⟨ι, S, env, d, S', rs, re, e, q⟩ := h
  obtain ⟨xs, S1, e1, e⟩ := Res.bind_ok e
  refine liA_at rs re e1 fun ι1 y H1 x1 rs1 re1 v1 => ?_
  exact hs _ _ _ _ _ _ _ _ rs1 v1 e fun ι' v H' x2 => q ι' v H' (x1.trans x2)
variable {x : Str} {p : Pos} {id T : String}
theorem re_callB {r : List V → Hp → VK → Prop} {o : Fn} (hc : CallR X (.builtin id) r) (hs : SimN X.K CA r o) (hg : Gl X x) (hm : X.mg x = none) (hv : bootBuiltins x = some (.builtin id)) (ha : PA X (a :: es) (liA X.K CA mr)) (hn : x ≠ "__name__" := by decide) (hdb : (x == ("__debug__" : Str)) = false := by decide)
    (he : starEach (a :: es) X.env = (false, eval a X.env) :: starEach es X.env := by rfl) (hpl : (backTo pos (starEach es X.env)).any (·.1) = false := by rfl) : PE X (.Call (.Name x p) (a :: es) [] pos) (liE X.K CA (mApp o mr)) :=
  pe_imp (pe_callB hc hg hm hv ha hn hdb he hpl) fun σ H Q h => tCB_of hs h
theorem re_callTy {r : List V → Hp → VK → Prop} {o : Fn} (hc : CallR X (.type T) r) (hs : SimN X.K CA r o) (hg : Gl X x) (hm : X.mg x = none) (hv : bootBuiltins x = some (.type T)) (ha : PA X (a :: es) (liA X.K CA mr)) (hn : x ≠ "__name__" := by decide) (hdb : (x == ("__debug__" : Str)) = false := by decide)
    (he : starEach (a :: es) X.env = (false, eval a X.env) :: starEach es X.env := by rfl) (hpl : (backTo pos (starEach es X.env)).any (·.1) = false := by rfl) : PE X (.Call (.Name x p) (a :: es) [] pos) (liE X.K CA (mApp o mr)) :=
  pe_imp (pe_callTy hc hg hm hv ha hn hdb he hpl) fun σ H Q h => tCB_of hs h
/-! a tuple display -/
def mTup (r : MA) : ME := fun env S => (r env S).bind fun xs S1 => if xs.length ≤ 16777216 then .ok (.tup xs) S1 else .bad
theorem re_tup {x1} (h : PA X es (liA X.K CA mr)) : PE X (.Tuple es x1 pos) (liE X.K CA (mTup mr)) :=
  pe_imp (pe_tup h) fun σ H Q ⟨ι, S, env, d, S', rs, re, e, q⟩ => by
    obtain ⟨xs, S1, e1, e⟩ := Res.bind_ok e
    split at e
    case isFalse => cases e
    rename_i hl
    cases e
    refine liA_at rs re e1 fun ι1 y H1 x1 rs1 re1 v1 => ⟨by rw [← v1.length, sizeLine_eq]; exact hl, fun p hp => ?_⟩
    exact q ι1 _ _ (x1.trans (ext_new hp)) (rs1.new hp) (.tup (SqT.of upd_same) (v1.mono (ext_new hp)))

/-! ### calls of the text's own defs -/
def mCall (f : Fn) (r : MA) : ME := fun env S => (r env S).bind fun xs S1 => f xs S1
theorem re_call {k f : _} {fd : FuncData} {ps : List Str} {fn : Fn} {np : Nat} (F : FnOk X.prog X.w X.K X.mg X.base CX0 k f fd ps (spF X.K CA np fn)) (hr : Room k X.A) (hg : Gl X x) (hm : X.mg x = some (.ref f)) (hk : PySem.W.keepIn X.K (.ref f) = true) (hb : Binds X.K fd ps [])
    (hlen : (a :: es).length = np) (hmr : ∀ env S ds S', mr env S = .ok ds S' → ds.length = (a :: es).length) (ha : PA X (a :: es) (liA X.K CA mr)) (hdb : (x == ("__debug__" : Str)) = false := by decide) (he : starEach (a :: es) X.env = (false, eval a X.env) :: starEach es X.env := by rfl) (hpl : (backTo pos (starEach es X.env)).any (·.1) = false := by rfl) :
    PE X (.Call (.Name x p) (a :: es) [] pos) (liE X.K CA (mCall fn mr)) :=
  pe_imp (pe_call F hr hg hm hk hb .nil pass0 ha hdb he hpl) fun σ H Q ⟨ι, S, env, d, S', rs, re, e, q⟩ => by
    obtain ⟨xs, S1, e1, e⟩ := Res.bind_ok e
    refine liA_at rs re e1 fun ι1 y H1 x1 rs1 re1 v1 => ?_
    refine ⟨ι1, S1, xs, d, S', rs1, by rw [List.append_nil]; exact v1, (hmr _ _ _ _ e1).trans hlen, e, fun ι' v H' x2 => q ι' v H' (x1.trans x2)⟩
theorem mNil_len (env S ds S') (h : mNil env S = .ok ds S') : ds.length = ([] : List Expr).length := by cases h; rfl
theorem mCons_len {e : Expr} {es : List Expr} {m : ME} {r : MA} (h : ∀ env S ds S', r env S = .ok ds S' → ds.length = es.length) (env S ds S') (q : mCons m r env S = .ok ds S') : ds.length = (e :: es).length := by
  obtain ⟨x, S1, e1, q⟩ := Res.bind_ok q
  obtain ⟨xs, S2, e2, q⟩ := Res.bind_ok q
  cases q
  rw [List.length_cons, h _ _ _ _ e2, List.length_cons]

/-! ### tests -/
def mTruth (ma : ME) (t : D → Store → Option Bool) : MT := fun env S => (ma env S).bind fun x S1 => match t x S1 with
  | some b => .ok b S1
  | none => .bad
def truD (d : D) (S : Store) : Option Bool := match d with
  | .non => some false
  | .bl b => some b
  | .int i => some (i != 0)
  | .str x => if x.length ≤ 16777216 then some ((x.length : Int) != 0) else none
  | .tup l => some (!l.isEmpty)
  | .ro l => some (!l.isEmpty)
  | .obj n => match S[n]? with
    | some (.lst l) => some (!l.isEmpty)
    | some (.dct l) => some (!l.isEmpty)
    | _ => none
theorem isEmpty_vrs {K : PySem.W.Frag} {ι : Nat → Addr} {N : Nat} {H : Hp} {ds : List D} {vs : List V} (h : VRs K ι N H ds vs) : (!ds.isEmpty) = !vs.isEmpty := by cases h <;> rfl
theorem isEmpty_prs {K : PySem.W.Frag} {ι : Nat → Addr} {N : Nat} {H : Hp} {κ : Type} {ds : List (κ × D)} {vs : List (κ × V)} (h : PR K ι N H ds vs) : (!ds.isEmpty) = !vs.isEmpty := by cases h <;> rfl
theorem truV_of {K : PySem.W.Frag} {ι : Nat → Addr} {S : Store} {H : Hp} {d : D} {v : V} {b : Bool} (rs : RS K CA ι S H) (r : VR K ι S.length H d v) (h : truD d S = some b) : TruV K v H b := by
  cases r with
  | non => cases h; rfl
  | bl b => cases h; rfl
  | int i => cases h; rfl
  | str x =>
    unfold truD at h
    dsimp only at h
    split at h
    · rename_i hl
      cases h
      exact ⟨by rw [sizeLine_eq]; exact hl, rfl⟩
    · cases h
  | tup h1 r => cases h; exact .inr (.inl ⟨_, h1, isEmpty_vrs r⟩)
  | ro h1 r => cases h; exact .inl ⟨_, h1.l, isEmpty_vrs r⟩
  | obj n hn =>
    unfold truD at h
    dsimp only at h
    split at h
    · rename_i l e
      cases h
      obtain ⟨vs, r, q⟩ := rs.ob n _ e
      exact .inl ⟨vs, SqL.of q, isEmpty_vrs r⟩
    · rename_i l e
      cases h
      obtain ⟨vs, r, q⟩ := rs.ob n _ e
      exact .inr (.inr ⟨vs, q, isEmpty_prs r⟩)
    · cases h
theorem rt_truth (ha : PE X a (liE X.K CA ma)) (he : ∀ whole, isTrue a X.env whole = (do let v ← whole; standAt a.pos; holding [v] (truthy v)) := by intro _; rfl) : PT X a (liT X.K CA (mTruth ma truD)) :=
  pt_imp (pt_truth ha he) fun σ H Q ⟨ι, S, env, b, S', rs, re, e, q⟩ => by
    obtain ⟨x, S1, e1, e⟩ := Res.bind_ok e
    refine liE_at rs re e1 fun ι1 x H1 x1 rs1 re1 v1 => ?_
    split at e
    · rename_i b' ht
      cases e
      exact ⟨b, truV_of rs1 v1 ht, q ι1 H1 x1 rs1⟩
    · cases e
/-- a comparison as a test -/
def mBool (m : ME) : MT := fun env S => (m env S).bind fun x S1 => match x with
  | .bl b => .ok b S1
  | _ => .bad
theorem rt_cmp {op : CmpOp} {r : R2} {o : O2} (ho : OpR X (compareOp op) r) (hs : Sim2 X.K CA r o) (ha : PE X a (liE X.K CA ma)) (hb : PE X b (liE X.K CA mb)) (hm : behindInMarks op b = false) : PT X (.Compare a [op] [b] pos) (liT X.K CA (mBool (mOp2 o ma mb))) :=
  pt_imp (pt_cmpR ho ha hb hm) fun σ H Q ⟨ι, S, env, b', S', rs, re, e, q⟩ => by
    obtain ⟨x, S1, e1, e⟩ := Res.bind_ok e
    refine tOp_of hs ?_
    refine liE_at rs re e1 fun ι1 v H1 x1 rs1 re1 v1 => ?_
    cases x with
    | bl c => cases e; cases v1; exact ⟨b', rfl, q ι1 H1 x1 rs1⟩
    | _ => cases e
def mNot (m : MT) : MT := fun env S => (m env S).bind fun x S1 => .ok (!x) S1
theorem rt_not {m : MT} (ha : PT X a (liT X.K CA m)) : PT X (.UnaryOp .Not a pos) (liT X.K CA (mNot m)) :=
  pt_imp (pt_not ha) fun σ H Q ⟨ι, S, env, b', S', rs, re, e, q⟩ => by
    obtain ⟨x, S1, e1, e⟩ := Res.bind_ok e
    cases e
    exact liT_at rs re e1 fun ι1 H1 x1 rs1 re1 => q ι1 H1 x1 rs1
def mAnd (m n : MT) : MT := fun env S => (m env S).bind fun x S1 => if x = true then n env S1 else .ok false S1
def mOr (m n : MT) : MT := fun env S => (m env S).bind fun x S1 => if x = true then .ok true S1 else n env S1
theorem rw_and1 {m : MT} (ha : PT X a (liT X.K CA m)) : PW X (.BoolOp .And [a] pos) (liT X.K CA m) := pw_and1 ha
theorem rw_or1 {m : MT} (ha : PT X a (liT X.K CA m)) : PW X (.BoolOp .Or [a] pos) (liT X.K CA m) := pw_or1 ha
theorem rw_and {m n : MT} {rest : List Expr} (ha : PT X a (liT X.K CA m)) (hb : PW X (.BoolOp .And (b :: rest) pos) (liT X.K CA n)) : PW X (.BoolOp .And (a :: b :: rest) pos) (liT X.K CA (mAnd m n)) :=
  pw_imp (pw_and ha hb) fun σ H Q ⟨ι, S, env, b', S', rs, re, e, q⟩ => by
    obtain ⟨x, S1, e1, e⟩ := Res.bind_ok e
    refine liT_at rs re e1 fun ι1 H1 x1 rs1 re1 => ?_
    split at e
    · rename_i hx
      rw [if_pos hx]
      exact liT_at rs1 re1 e fun ι2 H2 x2 rs2 re2 => q ι2 H2 (x1.trans x2) rs2
    · rename_i hx
      rw [if_neg hx]
      cases e
      exact q ι1 H1 x1 rs1
theorem rw_or {m n : MT} {rest : List Expr} (ha : PT X a (liT X.K CA m)) (hb : PW X (.BoolOp .Or (b :: rest) pos) (liT X.K CA n)) : PW X (.BoolOp .Or (a :: b :: rest) pos) (liT X.K CA (mOr m n)) :=
  pw_imp (pw_or ha hb) fun σ H Q ⟨ι, S, env, b', S', rs, re, e, q⟩ => by
    obtain ⟨x, S1, e1, e⟩ := Res.bind_ok e
    refine liT_at rs re e1 fun ι1 H1 x1 rs1 re1 => ?_
    split at e
    · rename_i hx
      rw [if_pos hx]
      cases e
      exact q ι1 H1 x1 rs1
    · rename_i hx
      rw [if_neg hx]
      exact liT_at rs1 re1 e fun ι2 H2 x2 rs2 re2 => q ι2 H2 (x1.trans x2) rs2
theorem rt_w {m : MT} (h : PW X a (liT X.K CA m)) : PT X a (liT X.K CA m) := h.pt
/-- and, or, not of truth values, as values -/
def mAndV (m n : ME) : ME := fun env S => (m env S).bind fun x S1 => match x with
  | .bl true => n env S1
  | .bl false => .ok (.bl false) S1
  | _ => .bad
def mOrV (m n : ME) : ME := fun env S => (m env S).bind fun x S1 => match x with
  | .bl true => .ok (.bl true) S1
  | .bl false => n env S1
  | _ => .bad
def mNotV (m : ME) : ME := fun env S => (m env S).bind fun x S1 => match x with
  | .bl b => .ok (.bl (!b)) S1
  | _ => .bad
theorem re_one {op} {m : ME} (h : PE X a (liE X.K CA m)) : PE X (.BoolOp op [a] pos) (liE X.K CA m) := pe_one h
theorem re_and {rest : List Expr} (ha : PE X a (liE X.K CA ma)) (hb : PE X (.BoolOp .And (b :: rest) pos) (liE X.K CA mb)) : PE X (.BoolOp .And (a :: b :: rest) pos) (liE X.K CA (mAndV ma mb)) :=
  pe_imp (pe_and ha hb) fun σ H Q ⟨ι, S, env, b', S', rs, re, e, q⟩ => by
    obtain ⟨x, S1, e1, e⟩ := Res.bind_ok e
    refine liE_at rs re e1 fun ι1 v H1 x1 rs1 re1 v1 => ?_
    cases x with
    | bl c =>
      cases v1
      refine ⟨c, rfl, ?_⟩
      cases c with
      | true => exact liE_at rs1 re1 e fun ι2 v2 H2 x2 rs2 re2 w2 => q ι2 v2 H2 (x1.trans x2) rs2 w2
      | false => cases e; exact q ι1 _ H1 x1 rs1 (.bl false)
    | _ => cases e
theorem re_or {rest : List Expr} (ha : PE X a (liE X.K CA ma)) (hb : PE X (.BoolOp .Or (b :: rest) pos) (liE X.K CA mb)) : PE X (.BoolOp .Or (a :: b :: rest) pos) (liE X.K CA (mOrV ma mb)) :=
  pe_imp (pe_or ha hb) fun σ H Q ⟨ι, S, env, b', S', rs, re, e, q⟩ => by
    obtain ⟨x, S1, e1, e⟩ := Res.bind_ok e
    refine liE_at rs re e1 fun ι1 v H1 x1 rs1 re1 v1 => ?_
    cases x with
    | bl c =>
      cases v1
      refine ⟨c, rfl, ?_⟩
      cases c with
      | false => exact liE_at rs1 re1 e fun ι2 v2 H2 x2 rs2 re2 w2 => q ι2 v2 H2 (x1.trans x2) rs2 w2
      | true => cases e; exact q ι1 _ H1 x1 rs1 (.bl true)
    | _ => cases e
theorem re_not (ha : PE X a (liE X.K CA ma)) : PE X (.UnaryOp .Not a pos) (liE X.K CA (mNotV ma)) :=
  pe_imp (pe_not ha) fun σ H Q ⟨ι, S, env, b', S', rs, re, e, q⟩ => by
    obtain ⟨x, S1, e1, e⟩ := Res.bind_ok e
    refine liE_at rs re e1 fun ι1 v H1 x1 rs1 re1 v1 => ?_
    cases x with
    | bl c => cases v1; cases e; exact ⟨c, rfl, q ι1 _ H1 x1 rs1 (.bl _)⟩
    | _ => cases e

/-! ### statements -/
def mSkip : MS := fun env S => .ok (.nx, env) S
def mSeq (m n : MS) : MS := fun env S => (m env S).bind fun r S1 => match r with
  | (.nx, env1) => n env1 S1
  | (fl, env1) => .ok (fl, env1) S1
def mSet (i : Nat) (m : ME) : MS := fun env S => (m env S).bind fun x S1 => .ok (.nx, env.set i (some x)) S1
def mRet (m : ME) : MS := fun env S => (m env S).bind fun x S1 => .ok (.rt x, env) S1
def mExpr (m : ME) : MS := fun env S => (m env S).bind fun _ S1 => .ok (.nx, env) S1
def mIf (t : MT) (m n : MS) : MS := fun env S => (t env S).bind fun b S1 => if b = true then m env S1 else n env S1
def mBrk : MS := fun env S => .ok (.bk, env) S
def mCnt : MS := fun env S => .ok (.ct, env) S
variable {st : Stmt} {rest : List Stmt} {m n : MS}
theorem rss_nil : PSs X [] (liS X.K CA mSkip) := pss_imp pss_nil fun Dn σ H ⟨ι, S, env, fl, env', S', rs, re, e, q⟩ => by
  cases e; exact q ι σ H Ext.refl rs re
theorem rs_pass : PS X (.Pass pos) (liS X.K CA mSkip) := ps_imp ps_pass fun Dn σ H ⟨ι, S, env, fl, env', S', rs, re, e, q⟩ => by
  cases e; exact q ι σ H Ext.refl rs re
theorem rs_brk : PS X (.Break pos) (liS X.K CA mBrk) := ps_imp ps_break fun Dn σ H ⟨ι, S, env, fl, env', S', rs, re, e, q⟩ => by
  cases e; exact q ι σ H Ext.refl rs re
theorem rs_cnt : PS X (.Continue pos) (liS X.K CA mCnt) := ps_imp ps_continue fun Dn σ H ⟨ι, S, env, fl, env', S', rs, re, e, q⟩ => by
  cases e; exact q ι σ H Ext.refl rs re
theorem rss_one (h : PS X st (liS X.K CA m)) : PSs X [st] (liS X.K CA m) := pss_one h
theorem rss_cons (h1 : PS X st (liS X.K CA m)) (h2 : PSs X rest (liS X.K CA n)) : PSs X (st :: rest) (liS X.K CA (mSeq m n)) :=
  pss_imp (pss_cons h1 h2) fun Dn σ H ⟨ι, S, env, fl, env', S', rs, re, e, q⟩ => by
    obtain ⟨⟨fl1, env1⟩, S1, e1, e⟩ := Res.bind_ok e
    refine ⟨ι, S, env, fl1, env1, S1, rs, re, e1, ?_⟩
    cases fl1 with
    | nx =>
      intro ι1 σ1 H1 x1 rs1 re1
      refine ⟨ι1, S1, env1, fl, env', S', rs1, re1, e, ?_⟩
      cases fl with
      | nx => exact fun ι2 σ2 H2 x2 => q ι2 σ2 H2 (x1.trans x2)
      | bk => exact fun ι2 σ2 H2 x2 => q ι2 σ2 H2 (x1.trans x2)
      | ct => exact fun ι2 σ2 H2 x2 => q ι2 σ2 H2 (x1.trans x2)
      | rt d => exact fun ι2 σ2 H2 x2 => q ι2 σ2 H2 (x1.trans x2)
    | bk => cases e; exact q
    | ct => cases e; exact q
    | rt d => cases e; exact q
theorem rs_set {i : Nat} {y : Str} {e : Expr} {pos' : Pos} (hN : X.N.Nodup) (hi : X.N[i]? = some y) (hx : Loc X.env.scope y) (he : PE X e (liE X.K CA ma)) (hs : swapsWith e (some (.Name y pos')) pos.line X.env = pure false := by rfl) (hf : X.fn y = true ∨ X.env.scope.names.lookup y = some .local := by first | exact .inl rfl | exact .inr rfl | assumption) :
    PS X (.Assign [.Name y pos'] e pos) (liS X.K CA (mSet i ma)) := ps_imp (ps_set hN hi hx he hs hf) fun Dn σ H ⟨ι, S, env, fl, env', S', rs, re, e, q⟩ => by
  obtain ⟨x, S1, e1, e⟩ := Res.bind_ok e
  cases e
  exact liE_at rs re e1 fun ι1 v H1 x1 rs1 re1 v1 => q ι1 _ H1 x1 rs1 (re1.set i v1)
theorem rs_ret {e : Expr} (he : PE X e (liE X.K CA ma)) : PS X (.Return (some e) pos) (liS X.K CA (mRet ma)) := ps_imp (ps_ret he) fun Dn σ H ⟨ι, S, env, fl, env', S', rs, re, e, q⟩ => by
  obtain ⟨x, S1, e1, e⟩ := Res.bind_ok e
  cases e
  exact liE_at rs re e1 fun ι1 v H1 x1 rs1 re1 v1 => q ι1 _ H1 x1 rs1 v1
theorem rs_retN : PS X (.Return none pos) (liS X.K CA (mRet (mC .non))) := ps_imp ps_retN fun Dn σ H ⟨ι, S, env, fl, env', S', rs, re, e, q⟩ => by
  cases e
  exact q ι _ H Ext.refl rs .non
theorem rs_expr {e : Expr} (he : PE X e (liE X.K CA ma)) (hs : swapsWith e none pos.line X.env = pure false := by rfl) : PS X (.Expr e pos) (liS X.K CA (mExpr ma)) := ps_imp (ps_expr he hs) fun Dn σ H ⟨ι, S, env, fl, env', S', rs, re, e, q⟩ => by
  obtain ⟨x, S1, e1, e⟩ := Res.bind_ok e
  cases e
  exact liE_at rs re e1 fun ι1 v H1 x1 rs1 re1 v1 => q ι1 _ H1 x1 rs1 re1
theorem rs_if {c : Expr} {s1 s2 : List Stmt} {t : MT} (hc : PT X c (liT X.K CA t)) (h1 : PSs X s1 (liS X.K CA m)) (h2 : PSs X s2 (liS X.K CA n)) : PS X (.If c s1 s2 pos) (liS X.K CA (mIf t m n)) :=
  ps_imp (ps_if hc h1 h2) fun Dn σ H ⟨ι, S, env, fl, env', S', rs, re, e, q⟩ => by
    obtain ⟨b, S1, e1, e⟩ := Res.bind_ok e
    refine liT_at rs re e1 fun ι1 H1 x1 rs1 re1 => ?_
    have go : ∀ {m' : MS}, m' env S1 = .ok (fl, env') S' → liS X.K CA m' Dn σ H1 := fun {m'} e' => by
      refine ⟨ι1, S1, env, fl, env', S', rs1, re1, e', ?_⟩
      cases fl with
      | nx => exact fun ι2 σ2 H2 x2 => q ι2 σ2 H2 (x1.trans x2)
      | bk => exact fun ι2 σ2 H2 x2 => q ι2 σ2 H2 (x1.trans x2)
      | ct => exact fun ι2 σ2 H2 x2 => q ι2 σ2 H2 (x1.trans x2)
      | rt d => exact fun ι2 σ2 H2 x2 => q ι2 σ2 H2 (x1.trans x2)
    split at e
    · rename_i hb; rw [if_pos hb]; exact go e
    · rename_i hb; rw [if_neg hb]; exact go e
end

/-- a def's body as a function -/
def runBody (nslots : Nat) (m : MS) : Fn := fun args S => match m (args.map some ++ List.replicate (nslots - args.length) none) S with
  | .ok (.nx, _) S' => .ok .non S'
  | .ok (.rt d, _) S' => .ok d S'
  | .ok _ _ => .bad
  | .exc c l S' => .exc c l S'
  | .bad => .bad
/-- THE RULE of a def -/
theorem def_ok {P : Program} {w : World} {K : PySem.W.Frag} {mg : Str → Option Value} {base : Heap} {CA : Nat → Addr} {x qual : Str} {st : Stmt} {f : Addr} {fd : FuncData} {Ns ps : List Str} {k np : Nat} {m : MS} (F : Fun K x qual st f fd) (Sc : FnScope Ns ps (defScope st)) (hp : ps.length = np)
    (hbody : ∀ (X : Cx), X.prog = P → X.w = w → X.K = K → X.mg = mg → X.base = base → X.N = Ns → X.env.scope = defScope st → X.calm = true → (∀ y, X.fn y = true) → Room k X.A → PassesOwn (model X.prog X.w) X.A X.env X.xe → PSs X (defBody st) (liS X.K CA m)) : FnOk P w K mg base CX0 (k + 1) f fd ps (spF K CA np (runBody Ns.length m)) := by
  refine F.ok Sc (fun vs H Q E h => ?_) (fun cdv A outer s H vs Q E hr h => ?_)
  · obtain ⟨ι, S, ds, d, S', rs, r, hl, _⟩ := h
    rw [← r.length, hl, hp]
  · obtain ⟨ι, S, ds, d, S', rs, r, hl, e, q⟩ := h
    refine ⟨liS K CA m, hbody _ rfl rfl rfl rfl rfl rfl rfl rfl (fun _ => rfl) hr PassesOwn.never, ?_⟩
    unfold runBody at e
    split at e
    case h_1 env' S2 e1 =>
      cases e
      exact ⟨ι, S, _, .nx, env', S', rs, RE.start r, e1, fun ι' σ' H' x rs' re' => q ι' _ H' x rs' .non⟩
    case h_2 d2 env' S2 e1 =>
      cases e
      exact ⟨ι, S, _, .rt d, env', S', rs, RE.start r, e1, fun ι' v H' x rs' re' => q ι' _ H' x rs' re'⟩
    all_goals cases e
end Nd

/-! NdC: operators, comparisons, subscripts, built-in calls on data. -/
namespace Nd
open PySem L2
variable {K : PySem.W.Frag} {CA : Nat → Addr}

theorem RS.lst {ι : Nat → Addr} {S : Store} {H : Hp} (rs : RS K CA ι S H) {n : Nat} {xs : List D} (e : S[n]? = some (.lst xs)) : n < S.length ∧ ∃ vs, VRs K ι S.length H xs vs ∧ H (ι n) = some (.lst vs) :=
  ⟨(List.getElem?_eq_some_iff.mp e).1, rs.ob n _ e⟩
theorem RS.dct {ι : Nat → Addr} {S : Store} {H : Hp} (rs : RS K CA ι S H) {n : Nat} {xs : List (Key × D)} (e : S[n]? = some (.dct xs)) : n < S.length ∧ ∃ vs, PR K ι S.length H xs vs ∧ H (ι n) = some (.dK vs) :=
  ⟨(List.getElem?_eq_some_iff.mp e).1, rs.ob n _ e⟩
/-- a new tracked object joins the store -/
theorem alloc_ok {ι : Nat → Addr} {S : Store} {H : Hp} (rs : RS K CA ι S H) {p : Addr} {u : HO} {o : O} (hp : H p = none) (ho : RO K CA ι S.length (upd H p u) p o) :
    Ext K ι S.length H (put ι S.length p) (S ++ [o]).length (upd H p u) ∧ RS K CA (put ι S.length p) (S ++ [o]) (upd H p u) ∧ VR K (put ι S.length p) (S ++ [o]).length (upd H p u) (.obj S.length) (.ref p) := by
  have hl : (S ++ [o]).length = S.length + 1 := by simp
  refine ⟨?_, ?_, ?_⟩
  · rw [hl]; exact ext_join (ext_new hp) hp ⟨u, upd_same⟩
  · exact (rs.new hp).join (fun n hn => rs.fresh hp hn) ho
  · rw [hl]
    have := VR.obj (K := K) (ι := put ι S.length p) (N := S.length + 1) (H := upd H p u) S.length (by omega)
    rwa [put_same] at this

/-! ### arithmetic -/
def oAdd : O2 := fun a b S => match a, b with
  | .int i, .int j => .ok (.int (i + j)) S
  | .str x, .str y => if x.length + y.length ≤ 16777216 then .ok (.str (x ++ y)) S else .bad
  | .tup xs, .tup ys => if xs.length + ys.length ≤ 16777216 then .ok (.tup (xs ++ ys)) S else .bad
  | .obj n, .obj m => match S[n]?, S[m]? with
    | some (.lst xs), some (.lst ys) => if xs.length + ys.length ≤ 16777216 then .ok (.obj S.length) (S ++ [.lst (xs ++ ys)]) else .bad
    | _, _ => .bad
  | _, _ => .bad
def rAddS : R2 := fun x y H Q => ∃ i j, x = .str i ∧ y = .str j ∧ i.length + j.length ≤ sizeLine ∧ Q (.str (i ++ j)) H
def rAddAll (K : PySem.W.Frag) : R2 := fun x y H Q => (rI0 (fun i j => .int (i + j)) x y H Q ∨ rAddS x y H Q) ∨ (rCatA K x y H Q ∨ rCat x y H Q)
theorem op_addAll {X : Cx} : OpR X (binaryOp .Add) (rAddAll X.K) := (op_add.or op_add_str).or (op_catA.or op_cat)
theorem sim_add : Sim2 K CA (rAddAll K) oAdd := by
  intro ι S H x y a b d S' Q rs ra rb e q
  unfold oAdd at e
  split at e
  · cases e; cases ra; cases rb
    exact .inl (.inl ⟨_, _, rfl, rfl, q ι _ H Ext.refl rs (.int _)⟩)
  · split at e
    · rename_i hl
      cases e; cases ra; cases rb
      exact .inl (.inr ⟨_, _, rfl, rfl, by rw [sizeLine_eq]; exact hl, q ι _ H Ext.refl rs (.str _)⟩)
    · cases e
  · split at e
    · rename_i hl
      cases e; cases ra with
      | tup h1 r1 =>
        cases rb with
        | tup h2 r2 =>
          refine .inr (.inl ⟨_, _, _, _, rfl, rfl, h1, h2, by rw [← r1.length, ← r2.length, sizeLine_eq]; exact hl, fun z => ?_, fun z1 z2 => ?_, fun z1 z2 p hp => ?_⟩)
          · have := r1.nil_iff.mp z
            subst this
            exact q ι _ H Ext.refl rs (.tup h2 r2)
          · have := r2.nil_iff.mp z2
            subst this
            rw [List.append_nil] at q
            exact q ι _ H Ext.refl rs (.tup h1 r1)
          · exact q ι _ _ (ext_new hp) (rs.new hp) (.tup (SqT.of upd_same) ((r1.append r2).mono (ext_new hp)))
    · cases e
  · split at e
    · rename_i n m xs ys e1 e2
      split at e
      · rename_i hl
        cases e; cases ra; cases rb
        obtain ⟨_, vs, r1, h1⟩ := rs.lst e1
        obtain ⟨_, ws, r2, h2⟩ := rs.lst e2
        refine .inr (.inr ⟨_, _, _, _, rfl, rfl, h1, h2, by rw [← r1.length, ← r2.length, sizeLine_eq]; exact hl, fun p hp => ?_⟩)
        obtain ⟨a1, a2, a3⟩ := alloc_ok (o := .lst (xs ++ ys)) rs hp (u := .lst (vs ++ ws)) ⟨_, (r1.append r2).mono (ext_new hp), upd_same⟩
        exact q _ _ _ a1 a2 a3
      · cases e
    · cases e
  · cases e
def oSub : O2 := fun a b S => match a, b with
  | .int i, .int j => .ok (.int (i - j)) S
  | _, _ => .bad
theorem sim_sub : Sim2 K CA (rI0 fun i j => .int (i - j)) oSub := by
  intro ι S H x y a b d S' Q rs ra rb e q
  unfold oSub at e
  split at e
  · cases e; cases ra; cases rb
    exact ⟨_, _, rfl, rfl, q ι _ H Ext.refl rs (.int _)⟩
  · cases e
def oMul : O2 := fun a b S => match a, b with
  | .int i, .int j => if i.natAbs < 18446744073709551616 ∨ j.natAbs < 18446744073709551616 then .ok (.int (i * j)) S else .bad
  | _, _ => .bad
theorem sim_mul : Sim2 K CA (rI CMul fun i j => .int (i * j)) oMul := by
  intro ι S H x y a b d S' Q rs ra rb e q
  unfold oMul at e
  split at e
  · split at e
    · rename_i h
      cases e; cases ra; cases rb
      refine ⟨_, _, rfl, rfl, ?_, q ι _ H Ext.refl rs (.int _)⟩
      rcases h with h | h
      · exact .inl (by omega)
      · exact .inr (by omega)
    · cases e
  · cases e
/-- // : any divisor below 2 ^ 9000 -/
def rFdiv : R2 := rI (fun _ j => j ≠ 0 ∧ j.natAbs.log2 < 9000) fun i j => .int (i.fdiv j)
theorem op_fdivG {X : Cx} : OpR X (binaryOp .FloorDiv) rFdiv := opI fun i j _ _ _ _ _ hc q => PyProof.Rows.floordiv_int hc.1 q (.inl (PyProof.noPylong_of_log2 hc.2))
def oDiv : O2 := fun a b S => match a, b with
  | .int i, .int j => if j ≠ 0 ∧ j.natAbs.log2 < 9000 then .ok (.int (i.fdiv j)) S else .bad
  | _, _ => .bad
theorem sim_div : Sim2 K CA rFdiv oDiv := by
  intro ι S H x y a b d S' Q rs ra rb e q
  unfold oDiv at e
  split at e
  · split at e
    · rename_i h
      cases e; cases ra; cases rb
      exact ⟨_, _, rfl, rfl, h, q ι _ H Ext.refl rs (.int _)⟩
    · cases e
  · cases e
def oMod : O2 := fun a b S => match a, b with
  | .int i, .int j => if j ≠ 0 then .ok (.int (i.fmod j)) S else .bad
  | _, _ => .bad
theorem sim_mod : Sim2 K CA (rI (fun _ j => j ≠ 0) fun i j => .int (i.fmod j)) oMod := by
  intro ι S H x y a b d S' Q rs ra rb e q
  unfold oMod at e
  split at e
  · split at e
    · rename_i h
      cases e; cases ra; cases rb
      exact ⟨_, _, rfl, rfl, h, q ι _ H Ext.refl rs (.int _)⟩
    · cases e
  · cases e
def oPow : O2 := fun a b S => match a, b with
  | .int i, .int j => if 0 ≤ j ∧ j ≤ 1000000 ∧ i.natAbs < 2 ^ 64 then .ok (.int (i ^ j.toNat)) S else .bad
  | _, _ => .bad
theorem sim_pow : Sim2 K CA (rI CPow fun i j => .int (i ^ j.toNat)) oPow := by
  intro ι S H x y a b d S' Q rs ra rb e q
  unfold oPow at e
  split at e
  · split at e
    · rename_i h
      cases e; cases ra; cases rb
      exact ⟨_, _, rfl, rfl, h, q ι _ H Ext.refl rs (.int _)⟩
    · cases e
  · cases e
def oNeg : O1 := fun a S => match a with
  | .int i => .ok (.int (-i)) S
  | _ => .bad
theorem sim_neg : Sim1 K CA (rU fun i => .int (-i)) oNeg := by
  intro ι S H x a d S' Q rs ra e q
  unfold oNeg at e
  split at e
  · cases e; cases ra
    exact ⟨_, rfl, q ι _ H Ext.refl rs (.int _)⟩
  · cases e

/-! ### comparisons -/
def oCmp (f : Int → Int → Bool) : O2 := fun a b S => match a, b with
  | .int i, .int j => .ok (.bl (f i j)) S
  | _, _ => .bad
theorem sim_cmp (f : Int → Int → Bool) : Sim2 K CA (rI0 fun i j => .bl (f i j)) (oCmp f) := by
  intro ι S H x y a b d S' Q rs ra rb e q
  unfold oCmp at e
  split at e
  · cases e; cases ra; cases rb
    exact ⟨_, _, rfl, rfl, q ι _ H Ext.refl rs (.bl _)⟩
  · cases e
abbrev oLt : O2 := oCmp fun i j => decide (i < j)
abbrev oLe : O2 := oCmp fun i j => decide (i ≤ j)
abbrev oGt : O2 := oCmp fun i j => decide (j < i)
abbrev oGe : O2 := oCmp fun i j => decide (j ≤ i)

def optAll {α β : Type} (f : α → Option β) : List α → Option (List β)
  | [] => some []
  | a :: l => match f a, optAll f l with
    | some b, some bs => some (b :: bs)
    | _, _ => none
def toPy : Nat → Store → D → Option PyData
  | 0, _, _ => none
  | k + 1, S, d => match d with
    | .non => some .none
    | .bl b => some (.bool b)
    | .int i => some (.int i)
    | .str x => some (.str x)
    | .tup l => (optAll (toPy k S) l).map .tuple
    | .ro l => (optAll (toPy k S) l).map .list
    | .obj n => match S[n]? with
      | some (.lst l) => (optAll (toPy k S) l).map .list
      | _ => none
theorem dpAll_of {ι : Nat → Addr} {N : Nat} {H : Hp} {f : D → Option PyData} (hf : ∀ d v p, VR K ι N H d v → f d = some p → Dp K H v p) : ∀ {ds : List D} {vs : List V} {ps : List PyData}, VRs K ι N H ds vs → optAll f ds = some ps → DpAll K H vs ps
  | _, _, _, .nil, e => by cases e; exact .nil
  | _, _, _, .cons h r, e => by
    unfold optAll at e
    split at e
    · rename_i b bs e1 e2
      cases e
      exact .cons (hf _ _ _ h e1) (dpAll_of hf r e2)
    · cases e
theorem dp_of {ι : Nat → Addr} {S : Store} {H : Hp} (rs : RS K CA ι S H) : ∀ (k : Nat) (d : D) (v : V) (p : PyData), VR K ι S.length H d v → toPy k S d = some p → Dp K H v p
  | 0, _, _, _, _, e => by cases e
  | k + 1, d, v, p, r, e => by
    have ih := dp_of rs k
    cases r with
    | non => cases e; exact .non
    | bl b => cases e; exact .bl b
    | int i => cases e; exact .int i
    | str x => cases e; exact .str x
    | tup h r =>
      obtain ⟨ps, e1, rfl⟩ := Option.map_eq_some_iff.mp (show (optAll (toPy k S) _).map PyData.tuple = some p from e)
      exact .tup h (dpAll_of ih r e1)
    | ro h r =>
      obtain ⟨ps, e1, rfl⟩ := Option.map_eq_some_iff.mp (show (optAll (toPy k S) _).map PyData.list = some p from e)
      exact .lst h.l (dpAll_of ih r e1)
    | obj n hn =>
      unfold toPy at e
      dsimp only at e
      split at e
      · rename_i l e2
        obtain ⟨ps, e1, rfl⟩ := Option.map_eq_some_iff.mp e
        obtain ⟨_, vs, r, h⟩ := rs.lst e2
        exact .lst (SqL.of h) (dpAll_of ih r e1)
      · cases e
/-- == : of scalars at once, else by what they are as data -/
def eqD (a b : D) (S : Store) : Option Bool := match a, b with
  | .int i, .int j => some (decide (i = j))
  | .str x, .str y => some (decide (x = y))
  | .bl x, .bl y => some (decide (x = y))
  | .non, .non => some true
  | .non, .int _ => some false
  | .int _, .non => some false
  | .non, .str _ => some false
  | .str _, .non => some false
  | .int _, .str _ => some false
  | .str _, .int _ => some false
  | a, b => match toPy 64 S a, toPy 64 S b with
    | some p, some q => if SeqAt.shaped p && SeqAt.shaped q then some (PyData.eqv p q) else none
    | _, _ => none
def oEq : O2 := fun a b S => match eqD a b S with
  | some k => .ok (.bl k) S
  | none => .bad
def oNe : O2 := fun a b S => match eqD a b S with
  | some k => .ok (.bl (!k)) S
  | none => .bad
def rEqAll (K : PySem.W.Frag) : R2 := fun x y H Q => rEq x y H Q ∨ rEqD K x y H Q
def rNeAll (K : PySem.W.Frag) : R2 := fun x y H Q => rNe x y H Q ∨ rNeD K x y H Q
theorem op_eqAll {X : Cx} (hu : X.A.units + 64 < cLine) : OpR X (compareOp .Eq) (rEqAll X.K) := op_eq.or (op_eqD hu)
theorem op_neAll {X : Cx} (hu : X.A.units + 64 < cLine) : OpR X (compareOp .NotEq) (rNeAll X.K) := op_ne.or (op_neD hu)
theorem eqD_spec {ι : Nat → Addr} {S : Store} {H : Hp} {a b : D} {x y : V} {k : Bool} (rs : RS K CA ι S H) (ra : VR K ι S.length H a x) (rb : VR K ι S.length H b y) (e : eqD a b S = some k) :
    (scal x y = true ∧ k = decide (x = y)) ∨ ∃ d e, Dp K H x d ∧ Dp K H y e ∧ SeqAt.shaped d = true ∧ SeqAt.shaped e = true ∧ k = PyData.eqv d e := by
  unfold eqD at e
  split at e
  · cases e; cases ra; cases rb; exact .inl ⟨rfl, by simp⟩
  · cases e; cases ra; cases rb; exact .inl ⟨rfl, by simp⟩
  · cases e; cases ra; cases rb; exact .inl ⟨rfl, by simp⟩
  · cases e; cases ra; cases rb; exact .inl ⟨rfl, by simp⟩
  · cases e; cases ra; cases rb; exact .inl ⟨rfl, by simp⟩
  · cases e; cases ra; cases rb; exact .inl ⟨rfl, by simp⟩
  · cases e; cases ra; cases rb; exact .inl ⟨rfl, by simp⟩
  · cases e; cases ra; cases rb; exact .inl ⟨rfl, by simp⟩
  · cases e; cases ra; cases rb; exact .inl ⟨rfl, by simp⟩
  · cases e; cases ra; cases rb; exact .inl ⟨rfl, by simp⟩
  · split at e
    · rename_i p q e1 e2
      split at e
      · rename_i h
        rw [Bool.and_eq_true] at h
        cases e
        exact .inr ⟨p, q, dp_of rs _ _ _ _ ra e1, dp_of rs _ _ _ _ rb e2, h.1, h.2, rfl⟩
      · cases e
    · cases e
theorem sim_eq : Sim2 K CA (rEqAll K) oEq := by
  intro ι S H x y a b d S' Q rs ra rb e q
  unfold oEq at e
  split at e
  · rename_i k e1
    cases e
    rcases eqD_spec rs ra rb e1 with ⟨h1, h2⟩ | ⟨p, r, h1, h2, h3, h4, h5⟩
    · subst h2; exact .inl ⟨h1, q ι _ H Ext.refl rs (.bl _)⟩
    · subst h5; exact .inr ⟨p, r, h1, h2, h3, h4, q ι _ H Ext.refl rs (.bl _)⟩
  · cases e
theorem sim_ne : Sim2 K CA (rNeAll K) oNe := by
  intro ι S H x y a b d S' Q rs ra rb e q
  unfold oNe at e
  split at e
  · rename_i k e1
    cases e
    rcases eqD_spec rs ra rb e1 with ⟨h1, h2⟩ | ⟨p, r, h1, h2, h3, h4, h5⟩
    · subst h2; exact .inl ⟨h1, q ι _ H Ext.refl rs (.bl _)⟩
    · subst h5; exact .inr ⟨p, r, h1, h2, h3, h4, q ι _ H Ext.refl rs (.bl _)⟩
  · cases e
/-- is None, is not None -/
def isNon : D → Bool
  | .non => true
  | _ => false
theorem isNon_of {ι : Nat → Addr} {N : Nat} {H : Hp} {a : D} {x : V} (r : VR K ι N H a x) : isNon a = decide (x = .non) := by cases r <;> simp [isNon]
def oIsN (neg : Bool) : O2 := fun a b S => match b with
  | .non => .ok (.bl (if neg then !isNon a else isNon a)) S
  | _ => .bad
theorem sim_isN : Sim2 K CA (fun x y H Q => y = .non ∧ Q (.bl (decide (x = .non))) H) (oIsN false) := by
  intro ι S H x y a b d S' Q rs ra rb e q
  unfold oIsN at e
  split at e
  · cases e; cases rb
    refine ⟨rfl, ?_⟩
    rw [← isNon_of ra]
    exact q ι _ H Ext.refl rs (.bl _)
  · cases e
theorem sim_notN : Sim2 K CA (fun x y H Q => y = .non ∧ Q (.bl (!decide (x = .non))) H) (oIsN true) := by
  intro ι S H x y a b d S' Q rs ra rb e q
  unfold oIsN at e
  split at e
  · cases e; cases rb
    refine ⟨rfl, ?_⟩
    rw [← isNon_of ra]
    exact q ι _ H Ext.refl rs (.bl _)
  · cases e

/-! ### in -/
def flatD : D → Bool
  | .non => true | .bl _ => true | .int _ => true | .str _ => true
  | _ => false
def eqF : D → D → Bool
  | .non, .non => true
  | .bl a, .bl b => a == b
  | .bl a, .int b => (if a then 1 else 0) == b
  | .int a, .bl b => a == (if b then 1 else 0)
  | .int a, .int b => a == b
  | .str a, .str b => a == b
  | _, _ => false
theorem flat_of {ι : Nat → Addr} {N : Nat} {H : Hp} {a : D} {x : V} (r : VR K ι N H a x) : flatD a = flatV x := by cases r <;> rfl
theorem eqF_of {ι : Nat → Addr} {N : Nat} {H : Hp} {a b : D} {x y : V} (r : VR K ι N H a x) (r' : VR K ι N H b y) : eqF a b = eqV x y := by
  cases r <;> cases r' <;> rfl
theorem flats_of {ι : Nat → Addr} {N : Nat} {H : Hp} : ∀ {ds : List D} {vs : List V}, VRs K ι N H ds vs → ds.all flatD = vs.all flatV
  | _, _, .nil => rfl
  | _, _, .cons h r => by rw [List.all_cons, List.all_cons, flat_of h, flats_of r]
theorem anyF_of {ι : Nat → Addr} {N : Nat} {H : Hp} {a : D} {x : V} (h : VR K ι N H a x) : ∀ {ds : List D} {vs : List V}, VRs K ι N H ds vs → (ds.any fun y => eqF y a) = vs.any fun y => eqV y x
  | _, _, .nil => rfl
  | _, _, .cons h' r => by rw [List.any_cons, List.any_cons, eqF_of h' h, anyF_of h r]
def keyOf : D → Option Key
  | .int i => some (.inl i)
  | .str x => some (.inr x)
  | _ => none
theorem key_of_vr {ι : Nat → Addr} {N : Nat} {H : Hp} {a : D} {x : V} {k : Key} (r : VR K ι N H a x) (e : keyOf a = some k) : x = kV k := by
  cases r <;> first
    | (cases e; rfl)
    | cases e
def getK {κ α : Type} [DecidableEq κ] (kvs : List (κ × α)) (k : κ) : Option α := (kvs.find? fun kv => decide (kv.1 = k)).map (·.2)
theorem getK_rel {κ : Type} [DecidableEq κ] {ι : Nat → Addr} {N : Nat} {H : Hp} {k : κ} : ∀ {l : List (κ × D)} {m : List (κ × V)}, PR K ι N H l m →
    (getK l k = none ∧ valV m k = none) ∨ ∃ d v, getK l k = some d ∧ valV m k = some v ∧ VR K ι N H d v
  | _, _, .nil => .inl ⟨rfl, rfl⟩
  | _, _, .cons (a := p) (b := q) (l₁ := t1) (l₂ := t2) h r => by
    by_cases e : q.1 = k
    · refine .inr ⟨p.2, q.2, ?_, valV_pos e, h.2⟩
      simp [getK, List.find?_cons, h.1, e]
    · have e' : ¬ p.1 = k := by rw [h.1]; exact e
      rw [valV_neg e]
      have : getK (p :: t1) k = getK t1 k := by simp [getK, List.find?_cons, e']
      rw [this]
      exact getK_rel r
def inD (a b : D) (S : Store) : Option Bool :=
  let seq := fun (l : List D) => if flatD a && l.all flatD then some (l.any fun y => eqF y a) else none
  match b with
  | .tup l => seq l
  | .ro l => seq l
  | .obj n => match S[n]? with
    | some (.lst l) => seq l
    | some (.dct kvs) => match keyOf a with
      | some k => some (getK kvs k).isSome
      | none => none
    | _ => none
  | _ => none
def oIn (neg : Bool) : O2 := fun a b S => match inD a b S with
  | some k => .ok (.bl (if neg then !k else k)) S
  | none => .bad
def rInDc (neg : Bool) : R2 := fun x y H Q => ∃ a o, y = .ref a ∧ DGet H a x o ∧ Q (.bl (if neg then !o.isSome else o.isSome)) H
theorem op_inD {X : Cx} (hu : X.A.units + 1 < cLine) : OpR X (compareOp .In) (rInDc false) := by
  intro pins s σ H x y v u Q I rx ry h
  obtain ⟨a, o, rfl, g, q⟩ := h
  obtain rfl : u = Value.ref a := ry
  exact d_in hu I g rx fun s' I' => ⟨.bl o.isSome, H, I', rfl, q⟩
theorem op_notInD {X : Cx} (hu : X.A.units + 1 < cLine) : OpR X (compareOp .NotIn) (rInDc true) := by
  intro pins s σ H x y v u Q I rx ry h
  obtain ⟨a, o, rfl, g, q⟩ := h
  obtain rfl : u = Value.ref a := ry
  exact d_notIn hu I g rx fun s' I' => ⟨.bl (!o.isSome), H, I', rfl, q⟩
def rInAll (K : PySem.W.Frag) (neg : Bool) : R2 := fun x y H Q => rIn K neg x y H Q ∨ rInDc neg x y H Q
theorem op_inAll {X : Cx} (hu : X.A.units + 1 < cLine) : OpR X (compareOp .In) (rInAll X.K false) := op_in_seq.or (op_inD hu)
theorem op_notInAll {X : Cx} (hu : X.A.units + 1 < cLine) : OpR X (compareOp .NotIn) (rInAll X.K true) := op_notIn_seq.or (op_notInD hu)
theorem sim_in (neg : Bool) : Sim2 K CA (rInAll K neg) (oIn neg) := by
  intro ι S H x y a b d S' Q rs ra rb e q
  unfold oIn at e
  split at e
  case h_2 => cases e
  rename_i k e1
  cases e
  have Q1 : Q (.bl (if neg then !k else k)) H := q ι _ H Ext.refl rs (.bl _)
  unfold inD at e1
  dsimp only at e1
  have go : ∀ {l : List D} {p : Addr} {vs : List V}, y = .ref p → (SqL K H p vs ∨ SqT K H p vs) → VRs K ι S.length H l vs → (if (flatD a && l.all flatD) = true then some (l.any fun y => eqF y a) else none) = some k → rInAll K neg x y H Q := by
    intro l p vs ey hs r h
    split at h
    · rename_i hf
      rw [Bool.and_eq_true] at hf
      cases h
      refine .inl ⟨p, vs, ey, hs, by rw [← flat_of ra]; exact hf.1, by rw [← flats_of r]; exact hf.2, ?_⟩
      have : inV x vs = l.any fun y => eqF y a := (anyF_of ra r).symm
      rw [this]; exact Q1
    · cases h
  cases rb with
  | tup h r => exact go rfl (.inr h) r e1
  | ro h r => exact go rfl (.inl h.l) r e1
  | obj n hn =>
    dsimp only at e1
    split at e1
    · rename_i l e2
      obtain ⟨_, vs, r, h⟩ := rs.lst e2
      exact go rfl (.inl (SqL.of h)) r e1
    · rename_i kvs e2
      obtain ⟨_, ws, r, h⟩ := rs.dct e2
      split at e1
      · rename_i kk e3
        cases e1
        have ex := key_of_vr ra e3
        subst ex
        refine .inr ⟨_, _, rfl, DGet.k h, ?_⟩
        rcases getK_rel (k := kk) r with ⟨g1, g2⟩ | ⟨d, v, g1, g2, _⟩
        · rw [g2]; rw [g1] at Q1; exact Q1
        · rw [g2]; rw [g1] at Q1; exact Q1
      · cases e1
    · cases e1
  | _ => cases e1

/-! ### subscripts -/
def ixD (x y : D) (S : Store) : Option D := match x, y with
  | .tup l, .int i => atI l i
  | .ro l, .int i => atI l i
  | .str z, .int i => if z.length ≤ 16777216 then (atI z.cps.toList i).map fun c => D.str ⟨#[c]⟩ else none
  | .obj n, k => match S[n]? with
    | some (.lst l) => match k with
      | .int i => atI l i
      | _ => none
    | some (.dct kvs) => match keyOf k with
      | some k => getK kvs k
      | none => none
    | _ => none
  | _, _ => none
def oIx : O2 := fun x y S => match ixD x y S with
  | some d => .ok d S
  | none => .bad
def rIxDc : R2 := fun x y H Q => ∃ a v, x = .ref a ∧ DGet H a y (some v) ∧ Q v H
theorem ix_dict {X : Cx} (hu : X.A.units + 1 < cLine) : IxR X rIxDc := by
  intro value slice pins s σ H x y v u Q I rx ry h hs
  obtain ⟨a, w, rfl, g, q⟩ := h
  obtain rfl : v = Value.ref a := rx
  exact PyProof.Rows.tail_any (dict_typeIs I g) PySem.F.slot_dict_getitem.lookup (d_getItem hu I g ry fun w' s3 I3 rw' => ⟨w, H, I3, rw', q⟩) hs
def rIxAll (K : PySem.W.Frag) : R2 := fun x y H Q => rIx K x y H Q ∨ rIxDc x y H Q
theorem ix_all {X : Cx} (hu : X.A.units + 1 < cLine) : IxR X (rIxAll X.K) := ix_seq.or (ix_dict hu)
theorem atI_rel {ι : Nat → Addr} {N : Nat} {H : Hp} {ds : List D} {vs : List V} {i : Int} {d : D} (r : VRs K ι N H ds vs) (e : atI ds i = some d) : ∃ v, atI vs i = some v ∧ VR K ι N H d v := by
  unfold atI at e ⊢
  rw [← r.length]
  cases h : ixN ds.length i with
  | none => rw [h] at e; cases e
  | some j =>
    rw [h] at e
    exact r.get e
theorem sim_ix : Sim2 K CA (rIxAll K) oIx := by
  intro ι S H x y a b d S' Q rs ra rb e q
  unfold oIx at e
  split at e
  case h_2 => cases e
  rename_i d' e1
  cases e
  unfold ixD at e1
  split at e1
  · cases rb
    cases ra with
    | tup h r =>
      obtain ⟨v, h1, h2⟩ := atI_rel r e1
      exact .inl (.inr (.inl ⟨_, _, _, v, rfl, rfl, h, h1, q ι _ H Ext.refl rs h2⟩))
  · cases rb
    cases ra with
    | ro h r =>
      obtain ⟨v, h1, h2⟩ := atI_rel r e1
      exact .inl (.inl ⟨_, _, _, v, rfl, rfl, h.l, h1, q ι _ H Ext.refl rs h2⟩)
  · cases rb; cases ra
    split at e1
    · rename_i hl
      obtain ⟨c, e2, rfl⟩ := Option.map_eq_some_iff.mp e1
      exact .inl (.inr (.inr ⟨_, _, c, rfl, rfl, by rw [sizeLine_eq]; exact hl, e2, q ι _ H Ext.refl rs (.str _)⟩))
    · cases e1
  · cases ra
    split at e1
    · rename_i l e2
      obtain ⟨_, vs, r, h⟩ := rs.lst e2
      split at e1
      · cases rb
        obtain ⟨v, h1, h2⟩ := atI_rel r e1
        exact .inl (.inl ⟨_, _, _, v, rfl, rfl, SqL.of h, h1, q ι _ H Ext.refl rs h2⟩)
      · cases e1
    · rename_i kvs e2
      obtain ⟨_, ws, r, h⟩ := rs.dct e2
      split at e1
      · rename_i kk e3
        have ex := key_of_vr rb e3
        subst ex
        rcases getK_rel (k := kk) r with ⟨g1, g2⟩ | ⟨d, v, g1, g2, g3⟩
        · rw [g1] at e1; cases e1
        · rw [g1] at e1; cases e1
          exact .inr ⟨_, v, rfl, by rw [← g2]; exact DGet.k h, q ι _ H Ext.refl rs g3⟩
      · cases e1
    · cases e1
  · cases e1

/-! ### built-in calls -/
def lenD (x : D) (S : Store) : Option Nat := match x with
  | .tup l => some l.length
  | .ro l => some l.length
  | .str z => if z.length ≤ 16777216 then some z.length else none
  | .obj n => match S[n]? with
    | some (.lst l) => some l.length
    | some (.dct l) => some l.length
    | _ => none
  | _ => none
def oLen : Fn := fun xs S => match xs with
  | [x] => match lenD x S with
    | some n => .ok (.int n) S
    | none => .bad
  | _ => .bad
def rLenD : List V → Hp → VK → Prop := fun xs H Q => ∃ a kvs, xs = [V.ref a] ∧ H a = some (.dK kvs) ∧ Q (.int kvs.length) H
theorem call_lenAll {X : Cx} : CallR X (.builtin "len") (fun xs H Q => (∃ x n, xs = [x] ∧ LenV X.K x H n ∧ Q (.int n) H) ∨ rLenD xs H Q) := call_len.or call_lenD
theorem sim_len : SimN K CA (fun xs H Q => (∃ x n, xs = [x] ∧ LenV K x H n ∧ Q (.int n) H) ∨ rLenD xs H Q) oLen := by
  intro ι S H xs as d S' Q rs ra e q
  unfold oLen at e
  split at e
  case h_2 => cases e
  rename_i x
  split at e
  case h_2 => cases e
  rename_i n e1
  cases e
  cases ra with
  | cons r rr =>
    cases rr
    unfold lenD at e1
    have Q1 : Q (.int n) H := q ι _ H Ext.refl rs (.int _)
    cases r with
    | tup h r => cases e1; exact .inl ⟨_, _, rfl, .inr ⟨_, h, rfl⟩, by rw [← r.length]; exact Q1⟩
    | ro h r => cases e1; exact .inl ⟨_, _, rfl, .inl ⟨_, h.l, rfl⟩, by rw [← r.length]; exact Q1⟩
    | str z =>
      dsimp only at e1
      split at e1
      · rename_i hl; cases e1; exact .inl ⟨_, _, rfl, ⟨by rw [sizeLine_eq]; exact hl, rfl⟩, Q1⟩
      · cases e1
    | obj m hm =>
      dsimp only at e1
      split at e1
      · rename_i l e2
        cases e1
        obtain ⟨_, vs, r, h⟩ := rs.lst e2
        exact .inl ⟨_, _, rfl, .inl ⟨_, SqL.of h, rfl⟩, by rw [← r.length]; exact Q1⟩
      · rename_i l e2
        cases e1
        obtain ⟨_, vs, r, h⟩ := rs.dct e2
        exact .inr ⟨_, _, rfl, h, by rw [← Paired.length r]; exact Q1⟩
      · cases e1
    | _ => cases e1
def oInt : Fn := fun xs S => match xs with
  | [.int i] => .ok (.int i) S
  | [.bl k] => .ok (.int (if k then 1 else 0)) S
  | _ => .bad
theorem sim_int : SimN K CA (fun xs H Q => (∃ i, xs = [.int i] ∧ Q (.int i) H) ∨ ∃ k, xs = [.bl k] ∧ Q (.int (if k then 1 else 0)) H) oInt := by
  intro ι S H xs as d S' Q rs ra e q
  unfold oInt at e
  split at e
  · cases e
    cases ra with
    | cons r rr => cases rr; cases r; exact .inl ⟨_, rfl, q ι _ H Ext.refl rs (.int _)⟩
  · cases e
    cases ra with
    | cons r rr => cases rr; cases r; exact .inr ⟨_, rfl, q ι _ H Ext.refl rs (.int _)⟩
  · cases e
def oAbs : Fn := fun xs S => match xs with
  | [.int i] => .ok (.int (if i < 0 then -i else i)) S
  | _ => .bad
theorem sim_abs : SimN K CA (fun xs H Q => ∃ i, xs = [.int i] ∧ Q (.int (if i < 0 then -i else i)) H) oAbs := by
  intro ι S H xs as d S' Q rs ra e q
  unfold oAbs at e
  split at e
  · cases e
    cases ra with
    | cons r rr => cases rr; cases r; exact ⟨_, rfl, q ι _ H Ext.refl rs (.int _)⟩
  · cases e
def oMax : Fn := fun xs S => match xs with
  | [.int i, .int j] => .ok (.int (if j > i then j else i)) S
  | _ => .bad
theorem sim_max : SimN K CA (fun xs H Q => ∃ i j, xs = [.int i, .int j] ∧ Q (.int (if j > i then j else i)) H) oMax := by
  intro ι S H xs as d S' Q rs ra e q
  unfold oMax at e
  split at e
  · cases e
    cases ra with
    | cons r rr => cases rr with
      | cons r2 rr => cases rr; cases r; cases r2; exact ⟨_, _, rfl, q ι _ H Ext.refl rs (.int _)⟩
  · cases e
def oMin : Fn := fun xs S => match xs with
  | [.int i, .int j] => .ok (.int (if j < i then j else i)) S
  | _ => .bad
theorem sim_min : SimN K CA (fun xs H Q => ∃ i j, xs = [.int i, .int j] ∧ Q (.int (if j < i then j else i)) H) oMin := by
  intro ι S H xs as d S' Q rs ra e q
  unfold oMin at e
  split at e
  · cases e
    cases ra with
    | cons r rr => cases rr with
      | cons r2 rr => cases rr; cases r; cases r2; exact ⟨_, _, rfl, q ι _ H Ext.refl rs (.int _)⟩
  · cases e
def seqD (x : D) (S : Store) : Option (List D) := match x with
  | .tup l => some l
  | .ro l => some l
  | .obj n => match S[n]? with
    | some (.lst l) => some l
    | _ => none
  | _ => none
theorem seqD_of {ι : Nat → Addr} {S : Store} {H : Hp} {x : D} {v : V} {l : List D} (rs : RS K CA ι S H) (r : VR K ι S.length H x v) (e : seqD x S = some l) :
    ∃ p vs, v = .ref p ∧ VRs K ι S.length H l vs ∧ (SqL K H p vs ∨ SqT K H p vs) := by
  cases r with
  | tup h r => cases e; exact ⟨_, _, rfl, r, .inr h⟩
  | ro h r => cases e; exact ⟨_, _, rfl, r, .inl h.l⟩
  | obj n hn =>
    unfold seqD at e
    dsimp only at e
    split at e
    · rename_i l e2
      cases e
      obtain ⟨_, vs, r, h⟩ := rs.lst e2
      exact ⟨_, _, rfl, r, .inl (SqL.of h)⟩
    · cases e
  | _ => cases e
/-- tuple(x) -/
def oTuple : Fn := fun xs S => match xs with
  | [x] => match seqD x S with
    | some l => .ok (.tup l) S
    | none => .bad
  | _ => .bad
theorem sim_tuple : SimN K CA (fun xs H Q => ∃ p ys, xs = [.ref p] ∧ ((SqL K H p ys ∧ ∀ l, H l = none → Q (.ref l) (upd H l (.tup ys))) ∨ (SqT K H p ys ∧ Q (.ref p) H))) oTuple := by
  intro ι S H xs as d S' Q rs ra e q
  unfold oTuple at e
  split at e
  case h_2 => cases e
  split at e
  case h_2 => cases e
  rename_i l e1
  cases e
  cases ra with
  | cons r rr =>
    cases rr
    obtain ⟨p, vs, rfl, r2, h⟩ := seqD_of rs r e1
    rcases h with h | h
    · exact ⟨p, vs, rfl, .inl ⟨h, fun t ht => q ι _ _ (ext_new ht) (rs.new ht) (.tup (SqT.of upd_same) (r2.mono (ext_new ht)))⟩⟩
    · exact ⟨p, vs, rfl, .inr ⟨h, q ι _ H Ext.refl rs (.tup h r2)⟩⟩
/-- str(int), str(str) -/
def oStr : Fn := fun xs S => match xs with
  | [.int i] => if i.natAbs.log2 < 1920 then .ok (.str (toString i)) S else .bad
  | _ => .bad
theorem sim_str : SimN K CA (fun xs H Q => ∃ i, xs = [.int i] ∧ i.natAbs.log2 < 1920 ∧ Q (.str (toString i)) H) oStr := by
  intro ι S H xs as d S' Q rs ra e q
  unfold oStr at e
  split at e
  · split at e
    · rename_i h
      cases e
      cases ra with
      | cons r rr => cases rr; cases r; exact ⟨_, rfl, h, q ι _ H Ext.refl rs (.str _)⟩
    · cases e
  · cases e
/-- dict(d) -/
def oDict : Fn := fun xs S => match xs with
  | [.obj n] => match S[n]? with
    | some (.dct kvs) => .ok (.obj S.length) (S ++ [.dct kvs])
    | _ => .bad
  | _ => .bad
def rDictC : List V → Hp → VK → Prop := fun xs H Q => ∃ (a : Addr) (kvs : List (Key × V)), xs = [.ref a] ∧ Rd H a (.dK kvs) ∧ ∀ p, H p = none → Q (.ref p) (upd H p (.dK kvs))
theorem call_dictC {X : Cx} : CallR X (.type "dict") rDictC := by
  intro pins s σ H xs us Q I r h
  obtain ⟨a, kvs, rfl, hr, q⟩ := h
  obtain ⟨u, rfl, rx⟩ := vals1 r
  obtain rfl : u = Value.ref a := rx
  exact d_copyOf I hr fun p s' hp I' => ⟨.ref p, _, I', rfl, q p hp⟩
theorem sim_dict : SimN K CA rDictC oDict := by
  intro ι S H xs as d S' Q rs ra e q
  unfold oDict at e
  split at e
  case h_2 => cases e
  split at e
  case h_2 => cases e
  rename_i kvs e1
  cases e
  cases ra with
  | cons r rr =>
    cases rr; cases r
    obtain ⟨_, ws, r, h⟩ := rs.dct e1
    refine ⟨_, _, rfl, .inl h, fun p hp => ?_⟩
    obtain ⟨a1, a2, a3⟩ := alloc_ok (o := .dct kvs) rs hp (u := .dK ws) ⟨_, r.mono (ext_new hp), upd_same⟩
    exact q _ _ _ a1 a2 a3
/-- sum of ints -/
def intsD : List D → Option (List Int)
  | [] => some []
  | .int i :: r => (intsD r).map fun l => i :: l
  | _ => none
theorem intsD_map : ∀ {ds : List D} {ns : List Int}, intsD ds = some ns → ds = ns.map D.int
  | [], _, e => by cases e; rfl
  | .int i :: r, ns, e => by
    obtain ⟨l, e1, rfl⟩ := Option.map_eq_some_iff.mp (show (intsD r).map _ = some ns from e)
    rw [List.map_cons, ← intsD_map e1]
  | .non :: _, _, e => by cases e
  | .bl _ :: _, _, e => by cases e
  | .str _ :: _, _, e => by cases e
  | .tup _ :: _, _, e => by cases e
  | .ro _ :: _, _, e => by cases e
  | .obj _ :: _, _, e => by cases e
theorem vrs_ints {ι : Nat → Addr} {N : Nat} {H : Hp} : ∀ {ns : List Int} {vs : List V}, VRs K ι N H (ns.map D.int) vs → vs = ns.map V.int
  | [], _, h => by cases h; rfl
  | n :: ns, _, h => by
    cases h with
    | cons a b => cases a; rw [vrs_ints b]; rfl
end Nd

/-! NdD: lists that are new, slices, objects and their methods, stores into things. -/
namespace Nd
open PySem L2
variable {K : PySem.W.Frag} {CA : Nat → Addr}

/-! ### lists just made -/
def mLst (r : MA) : MA := fun env S => (r env S).bind fun xs S1 => if xs.length ≤ 16777216 then .ok xs S1 else .bad
def mAlloc (m : MA) : ME := fun env S => (m env S).bind fun xs S1 => .ok (.obj S1.length) (S1 ++ [.lst xs])
section
variable {X : Cx} {a b e : Expr} {es : List Expr} {ma mb : ME} {mr : MA} {pos p : Pos} {x : Str} {id T : String}
theorem rl_lst (h : PA X es (liA X.K CA mr)) : PE X (.List es pos) (liL X.K CA (mLst mr)) :=
  pe_imp (pe_lst h) fun σ H Q ⟨ι, S, env, d, S', rs, re, e, q⟩ => by
    obtain ⟨xs, S1, e1, e⟩ := Res.bind_ok e
    split at e
    case isFalse => cases e
    rename_i hl
    cases e
    refine liA_at rs re e1 fun ι1 y H1 x1 rs1 re1 v1 => ⟨by rw [← v1.length, sizeLine_eq]; exact hl, fun p hp => ?_⟩
    exact q ι1 p y _ (x1.trans (ext_new hp)) (rs1.new hp) (v1.mono (ext_new hp)) upd_same (fun n hn => rs1.fresh hp hn) (x1.none hp)
theorem re_ofL {m : MA} (h : PE X e (liL X.K CA m)) : PE X e (liE X.K CA (mAlloc m)) :=
  pe_imp h fun σ H Q ⟨ι, S, env, d, S', rs, re, e, q⟩ => by
    obtain ⟨xs, S1, e1, e⟩ := Res.bind_ok e
    cases e
    refine liL_at rs re e1 fun ι1 a vs H1 x1 rs1 re1 v1 hA hn h0 => ?_
    have hl : (S1 ++ [O.lst xs]).length = S1.length + 1 := by simp
    refine q (put ι1 S1.length a) (.ref a) H1 (by rw [hl]; exact ext_join x1 h0 ⟨_, hA⟩) (rs1.join hn ⟨vs, v1, hA⟩) ?_
    rw [hl]
    have := VR.obj (K := X.K) (ι := put ι1 S1.length a) (N := S1.length + 1) (H := H1) S1.length (by omega)
    rwa [put_same] at this
/-- a built-in call of a list just made -/
def SimL (K : PySem.W.Frag) (CA : Nat → Addr) (r : List V → Hp → VK → Prop) (o : List D → Store → Res D) : Prop := ∀ (ι : Nat → Addr) (S : Store) (H : Hp) (a : Addr) (vs : List V) (xs : List D) (d : D) (S' : Store) (Q : VK), RS K CA ι S H → VRs K ι S.length H xs vs → H a = some (.lst vs) → (∀ n, n < S.length → ι n ≠ a) → o xs S = .ok d S' →
  (∀ ι' v H', Ext K ι S.length H ι' S'.length H' → RS K CA ι' S' H' → VR K ι' S'.length H' d v → Q v H') → r [.ref a] H Q
def mAppL (o : List D → Store → Res D) (m : MA) : ME := fun env S => (m env S).bind fun xs S1 => o xs S1
theorem tCBL_of {r : List V → Hp → VK → Prop} {o : List D → Store → Res D} {m : MA} (hs : SimL X.K CA r o) {σ : St} {H : Hp} {Q : VK} (h : liE X.K CA (mAppL o m) σ H Q) : tCB r (tCons (liL X.K CA m) tNil) σ H Q := by
  obtain ⟨ι, S, env, d, S', rs, re, e, q⟩ := h
  obtain ⟨xs, S1, e1, e⟩ := Res.bind_ok e
  show liL X.K CA m σ H (fun x H1 => r [x] H1 Q)
  refine liL_at rs re e1 fun ι1 a vs H1 x1 rs1 re1 v1 hA hn h0 => ?_
  exact hs _ _ _ _ _ _ _ _ _ rs1 v1 hA hn e fun ι' v H' x2 => q ι' v H' (x1.trans x2)
theorem re_callBL {r : List V → Hp → VK → Prop} {o : List D → Store → Res D} {m : MA} (hc : CallR X (.builtin id) r) (hs : SimL X.K CA r o) (hg : Gl X x) (hm : X.mg x = none) (hv : bootBuiltins x = some (.builtin id)) (ha : PE X a (liL X.K CA m)) (hn : x ≠ "__name__" := by decide) (hdb : (x == ("__debug__" : Str)) = false := by decide)
    (he : starEach (a :: []) X.env = (false, eval a X.env) :: starEach [] X.env := by rfl) (hpl : (backTo pos (starEach [] X.env)).any (·.1) = false := by rfl) : PE X (.Call (.Name x p) (a :: []) [] pos) (liE X.K CA (mAppL o m)) :=
  pe_imp (pe_callB hc hg hm hv (pa_cons ha pa_nil he) hn hdb he hpl) fun σ H Q h => tCBL_of hs h
theorem re_callTyL {r : List V → Hp → VK → Prop} {o : List D → Store → Res D} {m : MA} (hc : CallR X (.type T) r) (hs : SimL X.K CA r o) (hg : Gl X x) (hm : X.mg x = none) (hv : bootBuiltins x = some (.type T)) (ha : PE X a (liL X.K CA m)) (hn : x ≠ "__name__" := by decide) (hdb : (x == ("__debug__" : Str)) = false := by decide)
    (he : starEach (a :: []) X.env = (false, eval a X.env) :: starEach [] X.env := by rfl) (hpl : (backTo pos (starEach [] X.env)).any (·.1) = false := by rfl) : PE X (.Call (.Name x p) (a :: []) [] pos) (liE X.K CA (mAppL o m)) :=
  pe_imp (pe_callTy hc hg hm hv (pa_cons ha pa_nil he) hn hdb he hpl) fun σ H Q h => tCBL_of hs h
def oTupL : List D → Store → Res D := fun xs S => .ok (.tup xs) S
theorem sim_tupL : SimL K CA (fun xs H Q => ∃ p ys, xs = [.ref p] ∧ ((SqL K H p ys ∧ ∀ l, H l = none → Q (.ref l) (upd H l (.tup ys))) ∨ (SqT K H p ys ∧ Q (.ref p) H))) oTupL := by
  intro ι S H a vs xs d S' Q rs v hA hn e q
  cases e
  exact ⟨a, vs, rfl, .inl ⟨SqL.of hA, fun t ht => q ι _ _ (ext_new ht) (rs.new ht) (.tup (SqT.of upd_same) (v.mono (ext_new ht)))⟩⟩
def oSumL : List D → Store → Res D := fun xs S => match intsD xs with
  | some ns => .ok (.int ns.sum) S
  | none => .bad
theorem sim_sumL : SimL K CA (rSum K) oSumL := by
  intro ι S H a vs xs d S' Q rs v hA hn e q
  unfold oSumL at e
  split at e
  · rename_i ns e1
    cases e
    have e2 := intsD_map e1
    subst e2
    have e3 := vrs_ints v
    subst e3
    exact ⟨a, ns, rfl, SqL.of hA, q ι _ H Ext.refl rs (.int _)⟩
  · cases e
/-- x in [..] -/
def mInL (neg : Bool) (ma : ME) (m : MA) : ME := fun env S => (ma env S).bind fun x S1 => (m env S1).bind fun l S2 => if flatD x && l.all flatD then .ok (.bl (if neg then !(l.any fun y => eqF y x) else l.any fun y => eqF y x)) S2 else .bad
theorem tInL_of {neg : Bool} {m : MA} {σ : St} {H : Hp} {Q : VK} (h : liE X.K CA (mInL neg ma m) σ H Q) : tOp (rIn X.K neg) (liE X.K CA ma) (liL X.K CA m) σ H Q := by
  obtain ⟨ι, S, env, d, S', rs, re, e, q⟩ := h
  obtain ⟨x, S1, e1, e⟩ := Res.bind_ok e
  obtain ⟨l, S2, e2, e⟩ := Res.bind_ok e
  refine liE_at rs re e1 fun ι1 v H1 x1 rs1 re1 v1 => liL_at rs1 re1 e2 fun ι2 a vs H2 x2 rs2 re2 v2 hA hn h0 => ?_
  split at e
  · rename_i hf
    rw [Bool.and_eq_true] at hf
    cases e
    have w := v1.mono x2
    refine ⟨a, vs, rfl, .inl (SqL.of hA), by rw [← flat_of w]; exact hf.1, by rw [← flats_of v2]; exact hf.2, ?_⟩
    have : inV v vs = l.any fun y => eqF y x := (anyF_of w v2).symm
    rw [this]
    exact q ι2 _ H2 (x1.trans x2) rs2 (.bl _)
  · cases e
theorem re_inL {m : MA} (ha : PE X a (liE X.K CA ma)) (hb : PE X b (liL X.K CA m)) (hm : behindInMarks .In b = false) : PE X (.Compare a [.In] [b] pos) (liE X.K CA (mInL false ma m)) :=
  pe_imp (pe_cmpR op_in_seq ha hb hm) fun σ H Q h => tInL_of h
theorem rt_inL {m : MA} {neg : Bool} {op : CmpOp} (ho : OpR X (compareOp op) (rIn X.K neg)) (ha : PE X a (liE X.K CA ma)) (hb : PE X b (liL X.K CA m)) (hm : behindInMarks op b = false) : PT X (.Compare a [op] [b] pos) (liT X.K CA (mBool (mInL neg ma m))) :=
  pt_imp (pt_cmpR ho ha hb hm) fun σ H Q ⟨ι, S, env, b', S', rs, re, e, q⟩ => by
    obtain ⟨x, S1, e1, e⟩ := Res.bind_ok e
    refine tInL_of ?_
    refine liE_at rs re e1 fun ι1 v H1 x1 rs1 re1 v1 => ?_
    cases x with
    | bl c => cases e; cases v1; exact ⟨b', rfl, q ι1 H1 x1 rs1⟩
    | _ => cases e
/-- [..][i] -/
def mIxL (m : MA) (mb : ME) : ME := fun env S => (m env S).bind fun l S1 => (mb env S1).bind fun i S2 => match i with
  | .int i => match atI l i with
    | some d => .ok d S2
    | none => .bad
  | _ => .bad
theorem re_ixL {m : MA} (ha : PE X a (liL X.K CA m)) (hb : PE X b (liE X.K CA mb)) (hp : PlainIx b) : PE X (.Subscript a b pos) (liE X.K CA (mIxL m mb)) :=
  pe_imp (pe_ix ix_list ha hb hp) fun σ H Q ⟨ι, S, env, d, S', rs, re, e, q⟩ => by
    obtain ⟨l, S1, e1, e⟩ := Res.bind_ok e
    obtain ⟨i, S2, e2, e⟩ := Res.bind_ok e
    refine liL_at rs re e1 fun ι1 a vs H1 x1 rs1 re1 v1 hA hn h0 => liE_at rs1 re1 e2 fun ι2 v H2 x2 rs2 re2 v2 => ?_
    cases i with
    | int i =>
      dsimp only at e
      split at e
      · rename_i d' e3
        cases e
        cases v2
        obtain ⟨w, h1, h2⟩ := atI_rel (v1.mono x2) e3
        exact ⟨a, vs, i, w, rfl, rfl, SqL.of (x2.fr _ _ hA hn), h1, q ι2 _ H2 (x1.trans x2) rs2 h2⟩
      · cases e
    | _ => cases e
/-- list(x), as a new list -/
def mListOf (ma : ME) : MA := fun env S => (ma env S).bind fun x S1 => match seqD x S1 with
  | some l => .ok l S1
  | none => .bad
theorem rl_listOf (hg : Gl X x) (hm : X.mg x = none) (hv : bootBuiltins x = some (.type "list")) (ha : PE X a (liE X.K CA ma)) (hn : x ≠ "__name__" := by decide) (hdb : (x == ("__debug__" : Str)) = false := by decide)
    (he : starEach (a :: []) X.env = (false, eval a X.env) :: starEach [] X.env := by rfl) (hpl : (backTo pos (starEach [] X.env)).any (·.1) = false := by rfl) : PE X (.Call (.Name x p) (a :: []) [] pos) (liL X.K CA (mListOf ma)) :=
  pe_imp (pe_callTy call_list_of hg hm hv (pa_cons ha pa_nil he) hn hdb he hpl) fun σ H Q ⟨ι, S, env, d, S', rs, re, e, q⟩ => by
    obtain ⟨y, S1, e1, e⟩ := Res.bind_ok e
    refine liE_at rs re e1 fun ι1 v H1 x1 rs1 re1 v1 => ?_
    split at e
    · rename_i l e2
      cases e
      obtain ⟨p, vs, rfl, r2, h⟩ := seqD_of rs1 v1 e2
      exact ⟨p, vs, rfl, h, fun t ht => q ι1 t vs _ (x1.trans (ext_new ht)) (rs1.new ht) (r2.mono (ext_new ht)) upd_same (fun n hn => rs1.fresh ht hn) (x1.none ht)⟩
    · cases e

/-! ### slices -/
abbrev MO := Env → Store → Res (Option Int)
variable (K CA) in
def liO (m : MO) : TO := fun σ H Q => ∃ (ι : Nat → Addr) (S : Store) (env : Env) (d : Option Int) (S' : Store), RS K CA ι S H ∧ RE K ι S.length H env σ ∧ m env S = .ok d S' ∧
  ∀ ι' H', Ext K ι S.length H ι' S'.length H' → RS K CA ι' S' H' → Q d H'
theorem po_imp {e : Option Expr} {t t' : TO} (p : PO X e t) (h : ∀ σ H Q, t' σ H Q → t σ H Q) : PO X e t' := ⟨fun pins s σ H Q I q => p.run pins s σ H Q I (h σ H Q q)⟩
def mNoO : MO := fun _ S => .ok none S
def mSomeO (m : ME) : MO := fun env S => (m env S).bind fun x S1 => match x with
  | .int i => .ok (some i) S1
  | _ => .bad
theorem ro_none : PO X none (liO X.K CA mNoO) := po_imp po_none fun σ H Q ⟨ι, S, env, d, S', rs, re, e, q⟩ => by
  cases e; exact q ι H Ext.refl rs
theorem ro_some (h : PE X a (liE X.K CA ma)) : PO X (some a) (liO X.K CA (mSomeO ma)) := po_imp (po_some h) fun σ H Q ⟨ι, S, env, d, S', rs, re, e, q⟩ => by
  obtain ⟨y, S1, e1, e⟩ := Res.bind_ok e
  refine liE_at rs re e1 fun ι1 v H1 x1 rs1 re1 v1 => ?_
  cases y with
  | int i => cases e; cases v1; exact ⟨i, rfl, q ι1 H1 x1 rs1⟩
  | _ => cases e
def cutD (xs : List D) (lo hi : Option Int) : List D := (xs.drop (HT.sIx xs.length 0 lo)).take (HT.sIx xs.length xs.length hi - HT.sIx xs.length 0 lo)
theorem cut_rel {ι : Nat → Addr} {N : Nat} {H : Hp} {ds : List D} {vs : List V} (r : VRs K ι N H ds vs) (lo hi : Option Int) : VRs K ι N H (cutD ds lo hi) (cutV vs lo hi) := by
  unfold cutD cutV
  rw [r.length]
  exact (r.drop _).take _
theorem cutD_whole {xs : List D} {lo hi : Option Int} (h : HT.sIx xs.length 0 lo = 0 ∧ HT.sIx xs.length xs.length hi = xs.length) : cutD xs lo hi = xs := by
  unfold cutD
  rw [h.1, h.2]
  simp
def oSlice (x : D) (lo hi : Option Int) (S : Store) : Res D := match x with
  | .tup l => .ok (.tup (cutD l lo hi)) S
  | .ro l => .ok (.obj S.length) (S ++ [.lst (cutD l lo hi)])
  | .obj n => match S[n]? with
    | some (.lst l) => .ok (.obj S.length) (S ++ [.lst (cutD l lo hi)])
    | _ => .bad
  | _ => .bad
def mSlice (ma : ME) (ml mh : MO) : ME := fun env S => (ma env S).bind fun x S1 => (ml env S1).bind fun lo S2 => (mh env S2).bind fun hi S3 => oSlice x lo hi S3
def rSlAll (K : PySem.W.Frag) : V → Option Int → Option Int → Hp → VK → Prop := fun x lo hi H Q => rSlA K x lo hi H Q ∨ rSlL K x lo hi H Q
theorem re_slice {lo hi : Option Expr} {p2 : Pos} {ml mh : MO} (ha : PE X a (liE X.K CA ma)) (hl : PO X lo (liO X.K CA ml)) (hh : PO X hi (liO X.K CA mh)) : PE X (.Subscript a (.Slice lo hi none p2) pos) (liE X.K CA (mSlice ma ml mh)) :=
  pe_imp (pe_slice (r := rSlAll X.K) (sl_tupA.or sl_list) ha hl hh) fun σ H Q ⟨ι, S, env, d, S', rs, re, e, q⟩ => by
    obtain ⟨y, S1, e1, e⟩ := Res.bind_ok e
    obtain ⟨l, S2, e2, e⟩ := Res.bind_ok e
    obtain ⟨h, S3, e3, e⟩ := Res.bind_ok e
    refine liE_at rs re e1 fun ι1 v H1 x1 rs1 re1 v1 => ⟨ι1, S1, env, l, S2, rs1, re1, e2, fun ι2 H2 x2 rs2 => ⟨ι2, S2, env, h, S3, rs2, re1.mono x2, e3, fun ι3 H3 x3 rs3 => ?_⟩⟩
    have w := v1.mono (x2.trans x3)
    have xx := (x1.trans x2).trans x3
    unfold oSlice at e
    cases w with
    | tup h1 r =>
      cases e
      refine .inl ⟨_, _, rfl, h1, fun z => ?_, fun z p hp => ?_⟩
      · rw [← r.length] at z
        rw [cutD_whole z] at q
        exact q ι3 _ H3 xx rs3 (.tup h1 r)
      · exact q ι3 _ _ (xx.trans (ext_new hp)) (rs3.new hp) (.tup (SqT.of upd_same) ((cut_rel r _ _).mono (ext_new hp)))
    | ro h1 r =>
      cases e
      refine .inr ⟨_, _, rfl, h1.l, fun p hp => ?_⟩
      obtain ⟨a1, a2, a3⟩ := alloc_ok (o := .lst (cutD _ l h)) rs3 hp (u := .lst (cutV _ l h)) ⟨_, (cut_rel r l h).mono (ext_new hp), upd_same⟩
      exact q _ _ _ (xx.trans a1) a2 a3
    | obj n hn =>
      dsimp only at e
      split at e
      · rename_i l' e4
        cases e
        obtain ⟨_, vs, r, h1⟩ := rs3.lst e4
        refine .inr ⟨_, _, rfl, SqL.of h1, fun p hp => ?_⟩
        obtain ⟨a1, a2, a3⟩ := alloc_ok (o := .lst (cutD _ l h)) rs3 hp (u := .lst (cutV _ l h)) ⟨_, (cut_rel r l h).mono (ext_new hp), upd_same⟩
        exact q _ _ _ (xx.trans a1) a2 a3
      · cases e
    | _ => cases e

/-! ### dicts -/
def putKD {α : Type} (kvs : List (Key × α)) (k : Key) (v : α) : List (Key × α) :=
  if kvs.any (fun kv => decide (kv.1 = k)) then kvs.map fun kv => if kv.1 = k then (kv.1, v) else kv else kvs ++ [(k, v)]
theorem putK_is (kvs : List (Key × V)) (k : Key) (v : V) : putK kvs k v = putKD kvs k v := by
  unfold putK putKD
  rfl
theorem any_rel {ι : Nat → Addr} {N : Nat} {H : Hp} {k : Key} : ∀ {l : List (Key × D)} {m : List (Key × V)}, PR K ι N H l m → (l.any fun kv => decide (kv.1 = k)) = m.any fun kv => decide (kv.1 = k)
  | _, _, .nil => rfl
  | _, _, .cons h r => by rw [List.any_cons, List.any_cons, h.1, any_rel r]
theorem map_rel {ι : Nat → Addr} {N : Nat} {H : Hp} {k : Key} {d : D} {v : V} (hv : VR K ι N H d v) : ∀ {l : List (Key × D)} {m : List (Key × V)}, PR K ι N H l m → PR K ι N H (l.map fun kv => if kv.1 = k then (kv.1, d) else kv) (m.map fun kv => if kv.1 = k then (kv.1, v) else kv)
  | _, _, .nil => .nil
  | _, _, .cons (a := p) (b := q) h r => by
    rw [List.map_cons, List.map_cons]
    refine .cons ?_ (map_rel hv r)
    rw [h.1]
    split
    · exact ⟨rfl, hv⟩
    · exact h
theorem putK_rel {ι : Nat → Addr} {N : Nat} {H : Hp} {k : Key} {d : D} {v : V} (hv : VR K ι N H d v) {l : List (Key × D)} {m : List (Key × V)} (r : PR K ι N H l m) : PR K ι N H (putKD l k d) (putK m k v) := by
  rw [putK_is]
  unfold putKD
  rw [any_rel r]
  split
  · exact map_rel hv r
  · exact Paired.snoc r ⟨rfl, hv⟩
theorem putKD_len {α : Type} (kvs : List (Key × α)) (k : Key) (v : α) : (putKD kvs k v).length ≤ kvs.length + 1 := by
  unfold putKD
  split
  · rw [List.length_map]; omega
  · rw [List.length_append, List.length_singleton]; omega
/-- {} -/
def mDict0 : ME := fun _ S => .ok (.obj S.length) (S ++ [.dct []])
theorem re_dict0 : PE X (.Dict [] [] pos) (liE X.K CA mDict0) := pe_imp pe_dnewK fun σ H Q ⟨ι, S, env, d, S', rs, re, e, q⟩ => by
  cases e
  intro p hp
  obtain ⟨a1, a2, a3⟩ := alloc_ok (o := .dct []) rs hp (u := .dK []) ⟨_, .nil, upd_same⟩
  exact q _ _ _ a1 a2 a3
/-- {k: v, ..}, the keys written -/
def mDict (ks : List Key) (mr : MA) : ME := fun env S => (mr env S).bind fun vs S1 => .ok (.obj S1.length) (S1 ++ [.dct ((ks.zip vs).foldl (fun acc kv => putKD acc kv.1 kv.2) [])])
/-- the pairs of such a display -/
structure PD (X : Cx) (CA : Nat → Addr) (pos : Pos) (keys : List (Option Expr)) (vals : List Expr) (ks : List Key) (mr : MA) : Prop where
  len : keys.length = vals.length
  len2 : ks.length = vals.length
  ex : ∃ trs, PPs X pos keys vals trs ∧ ∀ (σ : St) (H : Hp) (Q : List (V × V) → Hp → Prop) (ι : Nat → Addr) (S : Store) (env : Env) (ds : List D) (S' : Store), RS X.K CA ι S H → RE X.K ι S.length H env σ → mr env S = .ok ds S' →
    (∀ ι' ps H', Ext X.K ι S.length H ι' S'.length H' → RS X.K CA ι' S' H' → VRs X.K ι' S'.length H' ds ps → Q ((ks.map kV).zip ps) H') → tPairs trs σ H Q
theorem pd_nil : PD X CA pos [] [] [] mNil := ⟨rfl, rfl, [], pps_nil, fun σ H Q ι S env ds S' rs re e q => by
  cases e
  exact q ι [] H Ext.refl rs .nil⟩
theorem pd_cons {k v : Expr} {ks : List (Option Expr)} {vs : List Expr} {kk : Key} {kks : List Key} (hk : PE X k (tC (kV kk))) (hv : PE X v (liE X.K CA ma)) (hr : PD X CA pos ks vs kks mr) : PD X CA pos (some k :: ks) (v :: vs) (kk :: kks) (mCons ma mr) := by
  obtain ⟨l1, l2, trs, p, h⟩ := hr
  refine ⟨by rw [List.length_cons, List.length_cons, l1], by rw [List.length_cons, List.length_cons, l2], _, pps_cons hk hv p, fun σ H Q ι S env ds S' rs re e q => ?_⟩
  obtain ⟨y, S1, e1, e⟩ := Res.bind_ok e
  obtain ⟨ys, S2, e2, e⟩ := Res.bind_ok e
  cases e
  show liE X.K CA ma σ H _
  refine liE_at rs re e1 fun ι1 v H1 x1 rs1 re1 v1 => ?_
  refine h σ H1 _ ι1 S1 env ys _ rs1 re1 e2 fun ι2 ps H2 x2 rs2 v2 => ?_
  exact q ι2 (v :: ps) H2 (x1.trans x2) rs2 (.cons (v1.mono x2) v2)
theorem zip_map_eq : ∀ (ks : List Key) (vs : List V), ks.length = vs.length → (ks.map kV).zip vs = (ks.zip vs).map fun kv => (kV kv.1, kv.2)
  | [], [], _ => rfl
  | k :: ks, v :: vs, h => by
    rw [List.map_cons, List.zip_cons_cons, List.zip_cons_cons, List.map_cons, zip_map_eq ks vs (by simpa using h)]
  | [], _ :: _, h => by simp at h
  | _ :: _, [], h => by simp at h
theorem zip_map_eq' : ∀ (ks : List Key) (vs : List V), (ks.map kV).zip vs = (ks.zip vs).map fun kv => (kV kv.1, kv.2)
  | [], _ => rfl
  | k :: ks, v :: vs => by rw [List.map_cons, List.zip_cons_cons, List.zip_cons_cons, List.map_cons, zip_map_eq' ks vs]
  | _ :: _, [] => rfl
theorem merge_rel {ι : Nat → Addr} {N : Nat} {H : Hp} : ∀ {ks : List Key} {ds : List D} {vs : List V} {l : List (Key × D)} {m : List (Key × V)}, VRs K ι N H ds vs → PR K ι N H l m →
    PR K ι N H ((ks.zip ds).foldl (fun acc kv => putKD acc kv.1 kv.2) l) ((ks.zip vs).foldl (fun acc kv => putK acc kv.1 kv.2) m)
  | [], _, _, _, _, _, r => by rw [List.zip_nil_left, List.zip_nil_left]; exact r
  | _ :: _, _, _, _, _, .nil, r => by rw [List.zip_nil_right, List.zip_nil_right]; exact r
  | _ :: _, _, _, _, _, .cons h t, r => by
    rw [List.zip_cons_cons, List.zip_cons_cons, List.foldl_cons, List.foldl_cons]
    exact merge_rel t (putK_rel h r)
theorem re_dict {keys : List (Option Expr)} {vals : List Expr} {ks : List Key} (h : PD X CA pos keys vals ks mr) (hall : keys.all (·.isSome) = true) (h0 : keys ≠ []) (h15 : keys.length ≤ 15) : PE X (.Dict keys vals pos) (liE X.K CA (mDict ks mr)) := by
  obtain ⟨l1, l2, trs, pp, h⟩ := h
  refine pe_imp (pe_disp pp hall l1 h0 h15) fun σ H Q ⟨ι, S, env, d, S', rs, re, e, q⟩ => ?_
  obtain ⟨ys, S1, e1, e⟩ := Res.bind_ok e
  cases e
  intro p hp
  refine h σ _ _ ι S env ys S1 (rs.new hp) (re.mono (ext_new hp)) e1 fun ι1 ps H1 x1 rs1 v1 => ?_
  have hn : ∀ n, n < S.length → ι n ≠ p := fun n hn => rs.fresh hp hn
  have hP : H1 p = some (.dK []) := x1.fr p _ upd_same hn
  have hn1 : ∀ n, n < S1.length → ι1 n ≠ p := fun n h1 e => by
    by_cases hS : n < S.length
    · exact hn n hS ((x1.io n hS).symm.trans e)
    · have := x1.nw n (by omega) h1
      rw [e, upd_same] at this; cases this
  refine ⟨hP, ks.zip ps, zip_map_eq' ks ps, by rw [List.length_zip]; omega, ?_⟩
  obtain ⟨z1, z2⟩ := ext_tmp (K := X.K) (w := .dK (mergeK [] (ks.zip ps))) hp x1 hP hn1 (by intro _ z; cases z) (by intro _ _ z; cases z)
  have hl : (S1 ++ [O.dct ((ks.zip ys).foldl (fun acc kv => putKD acc kv.1 kv.2) [])]).length = S1.length + 1 := by simp
  have rel : PR X.K ι1 S1.length (upd H1 p (.dK (mergeK [] (ks.zip ps)))) ((ks.zip ys).foldl (fun acc kv => putKD acc kv.1 kv.2) []) (mergeK [] (ks.zip ps)) := merge_rel (v1.monoW z2) .nil
  refine q (put ι1 S1.length p) (.ref p) _ (by rw [hl]; exact ext_join z1 hp ⟨_, upd_same⟩) ((rs1.out hn1 z2).join hn1 ⟨_, rel, upd_same⟩) ?_
  rw [hl]
  have := VR.obj (K := X.K) (ι := put ι1 S1.length p) (N := S1.length + 1) (H := upd H1 p (.dK (mergeK [] (ks.zip ps)))) S1.length (by omega)
  rwa [put_same] at this
end
end Nd

/-! NdE: instances, their fields and methods; stores; targets. -/
namespace Nd
open PySem L2
variable {K : PySem.W.Frag} {CA : Nat → Addr}

theorem RS.ins {ι : Nat → Addr} {S : Store} {H : Hp} (rs : RS K CA ι S H) {n c : Nat} {fs : List (Str × D)} (e : S[n]? = some (.ins c fs)) : n < S.length ∧ ∃ dx ws, PR K ι S.length H fs ws ∧ H (ι n) = some (.ins (CA c) dx ws) :=
  ⟨(List.getElem?_eq_some_iff.mp e).1, rs.ob n _ e⟩
def getA {α : Type} (f : Str) : List (Str × α) → Option α
  | [] => none
  | (g, x) :: r => if f = g then some x else getA f r
theorem getA_lookup {α : Type} (f : Str) : ∀ l : List (Str × α), getA f l = l.lookup f
  | [] => rfl
  | (g, x) :: r => by
    unfold getA
    rw [List.lookup_cons, getA_lookup f r]
    by_cases e : f = g
    · subst e; simp
    · have : (f == g) = false := beq_eq_false_iff_ne.mpr e
      rw [if_neg e, this]
theorem getA_rel {ι : Nat → Addr} {N : Nat} {H : Hp} {f : Str} : ∀ {l : List (Str × D)} {m : List (Str × V)}, PR K ι N H l m →
    (getA f l = none ∧ getA f m = none) ∨ ∃ d v, getA f l = some d ∧ getA f m = some v ∧ VR K ι N H d v
  | _, _, .nil => .inl ⟨rfl, rfl⟩
  | _, _, .cons (a := p) (b := q) (l₁ := t1) (l₂ := t2) h r => by
    obtain ⟨p1, p2⟩ := p
    obtain ⟨q1, q2⟩ := q
    obtain ⟨h1, h2⟩ := h
    dsimp only at h1 h2
    subst h1
    by_cases e : f = p1
    · refine .inr ⟨p2, q2, ?_, ?_, h2⟩ <;> simp [getA, e]
    · have e1 : getA f ((p1, p2) :: t1) = getA f t1 := by simp [getA, e]
      have e2 : getA f ((p1, q2) :: t2) = getA f t2 := by simp [getA, e]
      rw [e1, e2]
      exact getA_rel r
def putA {α : Type} (f : Str) (v : α) : List (Str × α) → List (Str × α)
  | [] => [(f, v)]
  | (g, x) :: r => if g = f then (g, v) :: r else (g, x) :: putA f v r
theorem putF_is (f : Str) (v : V) : ∀ l, putF f v l = putA f v l
  | [] => rfl
  | (g, x) :: r => by unfold putF putA; rw [putF_is f v r]
theorem putA_rel {ι : Nat → Addr} {N : Nat} {H : Hp} {f : Str} {d : D} {v : V} (hv : VR K ι N H d v) : ∀ {l : List (Str × D)} {m : List (Str × V)}, PR K ι N H l m → PR K ι N H (putA f d l) (putA f v m)
  | _, _, .nil => .cons ⟨rfl, hv⟩ .nil
  | _, _, .cons (a := p) (b := q) (l₁ := t1) (l₂ := t2) h r => by
    obtain ⟨p1, p2⟩ := p
    obtain ⟨q1, q2⟩ := q
    obtain ⟨h1, h2⟩ := h
    dsimp only at h1 h2
    subst h1
    unfold putA
    by_cases e : p1 = f
    · rw [if_pos e, if_pos e]; exact .cons ⟨rfl, hv⟩ r
    · rw [if_neg e, if_neg e]; exact .cons ⟨rfl, h2⟩ (putA_rel hv r)

section
variable {X : Cx} {a b e o value : Expr} {es : List Expr} {ma mb : ME} {mr : MA} {pos pos' p apos cpos tpos : Pos} {x f m : Str} {c : Nat}
/-- o.f -/
def oFld (c : Nat) (f : Str) : O1 := fun x S => match x with
  | .obj n => match S[n]? with
    | some (.ins c' fs) => if c' = c then (match getA f fs with
      | some d => .ok d S
      | none => .bad) else .bad
    | _ => .bad
  | _ => .bad
theorem re_fld (hc : Cls X.K (CA c)) (hn : NoAttr X.K (CA c) f) (ha : PE X e (liE X.K CA ma)) (hb : attributeBase e f X.env (eval e X.env) = eval e X.env := by rfl) : PE X (.Attribute e f pos) (liE X.K CA (mOp1 (oFld c f) ma)) :=
  pe_imp (pe_fld ha hb) fun σ H Q ⟨ι, S, env, d, S', rs, re, e, q⟩ => by
    obtain ⟨y, S1, e1, ee'⟩ := Res.bind_ok e; clear e; have e := ee'; clear ee'
    refine liE_at rs re e1 fun ι1 v H1 x1 rs1 re1 v1 => ?_
    unfold oFld at e
    cases v1 with
    | obj n hn' =>
      dsimp only at e
      split at e
      · rename_i c' fs e2
        split at e
        · rename_i hcc
          subst hcc
          obtain ⟨_, dx, ws, r, h⟩ := rs1.ins e2
          rcases getA_rel (f := f) r with ⟨g1, g2⟩ | ⟨d', v', g1, g2, g3⟩
          · rw [g1] at e; cases e
          · rw [g1] at e; cases e
            exact ⟨_, _, dx, ws, v', rfl, h, hc, hn, by rw [← getA_lookup]; exact g2, q ι1 _ H1 x1 rs1 g3⟩
        · cases e
      · cases e
    | _ => cases e
/-- o.f = value -/
def mSetF (c : Nat) (f : Str) (mo mv : ME) : MS := fun env S => (mv env S).bind fun v S1 => (mo env S1).bind fun x S2 => match x with
  | .obj n => match S2[n]? with
    | some (.ins c' fs) => if c' = c ∧ fs.length < 1000 then .ok (.nx, env) (S2.set n (.ins c (putA f v fs))) else .bad
    | _ => .bad
  | _ => .bad
theorem rs_fld (hc : Cls X.K (CA c)) (hn : NoAttr X.K (CA c) f) (ho : PE X o (liE X.K CA ma)) (hv : PE X value (liE X.K CA mb)) (hs : swapsWith value (some (.Attribute o f pos')) pos.line X.env = pure false := by rfl) : PS X (.Assign [.Attribute o f pos'] value pos) (liS X.K CA (mSetF c f ma mb)) :=
  ps_imp (ps_fld ho hv hs) fun Dn σ H ⟨ι, S, env, fl, env', S', rs, re, e, q⟩ => by
    obtain ⟨y, S1, e1, ee'⟩ := Res.bind_ok e; clear e; have e := ee'; clear ee'
    obtain ⟨z, S2, e2, ee'⟩ := Res.bind_ok e; clear e; have e := ee'; clear ee'
    refine liE_at rs re e1 fun ι1 v H1 x1 rs1 re1 v1 => liE_at rs1 re1 e2 fun ι2 w H2 x2 rs2 re2 v2 => ?_
    cases v2 with
    | obj n hn' =>
      dsimp only at e
      split at e
      · rename_i c' fs e3
        split at e
        · rename_i hcc
          obtain ⟨hcc, hlen⟩ := hcc
          subst hcc
          cases e
          obtain ⟨hnl, dx, ws, r, h⟩ := rs2.ins e3
          refine ⟨_, _, dx, ws, rfl, h, hc, hn, by rw [← Paired.length r]; exact hlen, ?_⟩
          have xs : Ext X.K ι2 S2.length H2 ι2 S2.length (upd H2 (ι2 n) (.ins (CA c') dx (putF f v ws))) := ext_set rs2 hnl
          have vv := (v1.mono x2).mono xs
          have rr : PR X.K ι2 S2.length (upd H2 (ι2 n) (.ins (CA c') dx (putF f v ws))) (putA f y fs) (putF f v ws) := by rw [putF_is]; rw [putF_is] at vv xs; exact putA_rel vv (r.mono xs)
          have hl : (S2.set n (.ins c' (putA f y fs))).length = S2.length := List.length_set
          refine q ι2 σ _ (by rw [hl]; exact (x1.trans x2).trans xs) (rs2.set hnl ⟨dx, _, rr, upd_same⟩) (by rw [hl]; exact re2.mono xs)
        · cases e
      · cases e
    | _ => cases e
/-- o.f += value (ints) -/
def mAugF (c : Nat) (f : Str) (g : Int → Int → Int) (mo mv : ME) : MS := fun env S => (mo env S).bind fun x S1 => (oFld c f x S1).bind fun old S1' => (mv env S1').bind fun v S2 => match x with
  | .obj n => match S2[n]?, old, v with
    | some (.ins c' fs), .int i, .int j => if c' = c ∧ fs.length < 1000 then .ok (.nx, env) (S2.set n (.ins c (putA f (.int (g i j)) fs))) else .bad
    | _, _, _ => .bad
  | _ => .bad
theorem rs_augF {op : Operator} {g : Int → Int → Int} (hop : InOp X op (fun x y H Q => ∃ i j, x = .int i ∧ y = .int j ∧ Q (.int (g i j)) H)) (hc : Cls X.K (CA c)) (hn : NoAttr X.K (CA c) f) (ho : PE X o (liE X.K CA ma)) (hv : PE X value (liE X.K CA mb)) :
    PS X (.AugAssign (.Attribute o f tpos) op value pos) (liS X.K CA (mAugF c f g ma mb)) :=
  ps_imp (ps_fldaug ho hv hop) fun Dn σ H ⟨ι, S, env, fl, env', S', rs, re, e, q⟩ => by
    obtain ⟨y, S1, e1, ee'⟩ := Res.bind_ok e; clear e; have e := ee'; clear ee'
    obtain ⟨old, S1', e1', ee'⟩ := Res.bind_ok e; clear e; have e := ee'; clear ee'
    obtain ⟨z, S2, e2, ee'⟩ := Res.bind_ok e; clear e; have e := ee'; clear ee'
    refine liE_at rs re e1 fun ι1 v H1 x1 rs1 re1 v1 => ?_
    cases v1 with
    | obj n hn' =>
      unfold oFld at e1'
      dsimp only at e1'
      split at e1'
      · rename_i c' fs e3
        split at e1'
        · rename_i hcc
          subst hcc
          obtain ⟨hnl, dx, ws, r, h⟩ := rs1.ins e3
          rcases getA_rel (f := f) r with ⟨g1, g2⟩ | ⟨d', v', g1, g2, g3⟩
          · rw [g1] at e1'; cases e1'
          · rw [g1] at e1'; cases e1'
            refine ⟨_, _, dx, ws, v', rfl, h, hc, hn, by rw [← getA_lookup]; exact g2, ?_⟩
            refine liE_at rs1 re1 e2 fun ι2 w H2 x2 rs2 re2 v2 => ?_
            dsimp only at e
            split at e
            · rename_i c'' fs' i j e4
              split at e
              · rename_i hcc
                obtain ⟨hcc, hlen⟩ := hcc
                subst hcc
                cases e; cases g3; cases v2
                obtain ⟨hnl2, dx2, ws2, r2, h2⟩ := rs2.ins e4
                have hio : ι2 n = ι1 n := x2.io n hn'
                rw [← hio]
                refine ⟨i, j, rfl, rfl, dx2, ws2, h2, by rw [← Paired.length r2]; exact hlen, ?_⟩
                have xs : Ext X.K ι2 S2.length H2 ι2 S2.length (upd H2 (ι2 n) (.ins (CA c'') dx2 (putF f (.int (g i j)) ws2))) := ext_set rs2 hnl2
                have rr : PR X.K ι2 S2.length (upd H2 (ι2 n) (.ins (CA c'') dx2 (putF f (.int (g i j)) ws2))) (putA f (.int (g i j)) fs') (putF f (.int (g i j)) ws2) := by
                  rw [putF_is]; rw [putF_is] at xs; exact putA_rel (.int _) (r2.mono xs)
                have hl : (S2.set n (.ins c'' (putA f (.int (g i j)) fs'))).length = S2.length := List.length_set
                refine q ι2 σ _ (by rw [hl]; exact (x1.trans x2).trans xs) (rs2.set hnl2 ⟨dx2, _, rr, upd_same⟩) (by rw [hl]; exact re2.mono xs)
              · cases e
            · cases e
        · cases e1'
      · cases e1'
    | _ => cases e1'
theorem in_addG : InOp X .Add (fun x y H Q => ∃ i j, x = .int i ∧ y = .int j ∧ Q (.int (i + j)) H) := in_add
theorem in_subG : InOp X .Sub (fun x y H Q => ∃ i j, x = .int i ∧ y = .int j ∧ Q (.int (i - j)) H) := in_sub
/-- a name += value (ints) -/
def mAug (i : Nat) (g : Int → Int → Int) (mv : ME) : MS := fun env S => match env[i]? with
  | some (some (.int u)) => (mv env S).bind fun v S1 => match v with
    | .int w => .ok (.nx, env.set i (some (.int (g u w)))) S1
    | _ => .bad
  | _ => .bad
theorem rs_aug {i : Nat} {y : Str} {op : Operator} {g : Int → Int → Int} (hop : PIp X op (ipI g)) (hN : X.N.Nodup) (hi : X.N[i]? = some y) (hx : Loc X.env.scope y) (hv : PE X value (liE X.K CA mb)) (hf : X.fn y = true ∨ X.env.scope.names.lookup y = some .local := by first | exact .inl rfl | exact .inr rfl | assumption) :
    PS X (.AugAssign (.Name y pos') op value pos) (liS X.K CA (mAug i g mb)) :=
  ps_imp (ps_aug hN hi hx hv hop hf) fun Dn σ H ⟨ι, S, env, fl, env', S', rs, re, e, q⟩ => by
    unfold mAug at e
    split at e
    · rename_i u e0
      obtain ⟨z, S1, e1, ee'⟩ := Res.bind_ok e; clear e; have e := ee'; clear ee'
      obtain ⟨v0, h1, h2⟩ := re.get i _ e0
      refine ⟨v0, h1, ?_⟩
      refine liE_at rs re e1 fun ι1 v H1 x1 rs1 re1 v1 => ?_
      cases h2
      cases z with
      | int w => cases e; cases v1; exact ⟨u, w, rfl, rfl, q ι1 _ H1 x1 rs1 (re1.set i (.int _))⟩
      | _ => cases e
    · cases e
/-- d[k] = v -/
def mPutD (mo mk mv : ME) : MS := fun env S => (mv env S).bind fun v S1 => (mo env S1).bind fun x S2 => (mk env S2).bind fun k S3 => match x with
  | .obj n => match S3[n]?, keyOf k with
    | some (.dct kvs), some kk => if kvs.length < 16777216 then .ok (.nx, env) (S3.set n (.dct (putKD kvs kk v))) else .bad
    | _, _ => .bad
  | _ => .bad
theorem rs_putD {mk : ME} (hu : X.A.units + 1 < cLine) (ho : PE X o (liE X.K CA ma)) (hk : PE X e (liE X.K CA mk)) (hv : PE X value (liE X.K CA mb)) (hs : swapsWith value (some (.Subscript o e pos')) pos.line X.env = pure false := by rfl) :
    PS X (.Assign [.Subscript o e pos'] value pos) (liS X.K CA (mPutD ma mk mb)) :=
  ps_imp (ps_dput hu ho hk hv hs) fun Dn σ H ⟨ι, S, env, fl, env', S', rs, re, e, q⟩ => by
    obtain ⟨v, S1, e1, ee'⟩ := Res.bind_ok e; clear e; have e := ee'; clear ee'
    obtain ⟨y, S2, e2, ee'⟩ := Res.bind_ok e; clear e; have e := ee'; clear ee'
    obtain ⟨k, S3, e3, ee'⟩ := Res.bind_ok e; clear e; have e := ee'; clear ee'
    refine liE_at rs re e1 fun ι1 w1 H1 x1 rs1 re1 v1 => liE_at rs1 re1 e2 fun ι2 w2 H2 x2 rs2 re2 v2 => liE_at rs2 re2 e3 fun ι3 w3 H3 x3 rs3 re3 v3 => ?_
    have v2' := v2.mono x3
    cases v2' with
    | obj n hn' =>
      dsimp only at e
      split at e
      · rename_i kvs kk e4 e5
        split at e
        · rename_i hl
          cases e
          obtain ⟨hnl, ws, r, h⟩ := rs3.dct e4
          have ek := key_of_vr v3 e5
          subst ek
          refine ⟨_, _, rfl, DPut.k h (by rw [← Paired.length r, sizeLine_eq]; exact hl), ?_⟩
          have xs : Ext X.K ι3 S3.length H3 ι3 S3.length (upd H3 (ι3 n) (.dK (putK ws kk w1))) := ext_set rs3 hnl
          have hl2 : (S3.set n (.dct (putKD kvs kk v))).length = S3.length := List.length_set
          refine q ι3 σ _ (by rw [hl2]; exact ((x1.trans x2).trans x3).trans xs) (rs3.set hnl ⟨_, putK_rel ((v1.mono (x2.trans x3)).mono xs) (r.mono xs), upd_same⟩) (by rw [hl2]; exact re3.mono xs)
        · cases e
      · cases e
    | _ => cases e
/-- xs[i] = v -/
def mPutL (mo mk mv : ME) : MS := fun env S => (mv env S).bind fun v S1 => (mo env S1).bind fun x S2 => (mk env S2).bind fun k S3 => match x, k with
  | .obj n, .int i => match S3[n]? with
    | some (.lst xs) => match ixN xs.length i with
      | some j => .ok (.nx, env) (S3.set n (.lst (xs.set j v)))
      | none => .bad
    | _ => .bad
  | _, _ => .bad
theorem rs_putL {mk : ME} (ho : PE X o (liE X.K CA ma)) (hk : PE X e (liE X.K CA mk)) (hv : PE X value (liE X.K CA mb))
    (ha : ∀ v, assign (.Subscript o e pos') X.env v = (do
      let ov ← holding [v] (eval o X.env)
      let iv ← holding [v, ov] (eval e X.env)
      standAt pos'
      holding [v, ov, iv] (setItem ov iv v)
      release [v, ov, iv] []) := by intro _; rfl)
    (hs : swapsWithSole [.Subscript o e pos'] value pos.line X.env = pure false := by rfl) (hw : swappedStores [.Subscript o e pos'] value X.env = pure none := by rfl)
    (h1 : (assignEach [.Subscript o e pos'] X.env).map (·.2) = [assign (.Subscript o e pos') X.env] := by rfl) :
    PS X (.Assign [.Subscript o e pos'] value pos) (liS X.K CA (mPutL ma mk mb)) :=
  ps_imp (ps_asg hv (pg_sub ho hk set_list ha) hs hw h1) fun Dn σ H ⟨ι, S, env, fl, env', S', rs, re, e, q⟩ => by
    obtain ⟨v, S1, e1, ee'⟩ := Res.bind_ok e; clear e; have e := ee'; clear ee'
    obtain ⟨y, S2, e2, ee'⟩ := Res.bind_ok e; clear e; have e := ee'; clear ee'
    obtain ⟨k, S3, e3, ee'⟩ := Res.bind_ok e; clear e; have e := ee'; clear ee'
    refine liE_at rs re e1 fun ι1 w1 H1 x1 rs1 re1 v1 => liE_at rs1 re1 e2 fun ι2 w2 H2 x2 rs2 re2 v2 => liE_at rs2 re2 e3 fun ι3 w3 H3 x3 rs3 re3 v3 => ?_
    have v2' := v2.mono x3
    cases v2' with
    | obj n hn' =>
      cases v3 with
      | int i =>
        dsimp only at e
        split at e
        · rename_i xs e4
          split at e
          · rename_i j e5
            cases e
            obtain ⟨hnl, vs, r, h⟩ := rs3.lst e4
            refine ⟨_, _, i, j, rfl, rfl, h, by rw [← r.length]; exact e5, ?_⟩
            have ex : Ext X.K ι3 S3.length H3 ι3 S3.length (upd H3 (ι3 n) (.lst (vs.set j w1))) := ext_set rs3 hnl
            have hl2 : (S3.set n (.lst (xs.set j v))).length = S3.length := List.length_set
            refine q ι3 σ _ (by rw [hl2]; exact ((x1.trans x2).trans x3).trans ex) (rs3.set hnl ⟨_, VRs.set ((v1.mono (x2.trans x3)).mono ex) j (r.mono ex), upd_same⟩) (by rw [hl2]; exact re3.mono ex)
          · cases e
        · cases e
      | _ => cases e
    | _ => cases e
/-- d[k] += v (ints) -/
def mAugD (g : Int → Int → Int) (mo mk mv : ME) : MS := fun env S => (mo env S).bind fun x S1 => (mk env S1).bind fun k S2 => match x with
  | .obj n => match S2[n]?, keyOf k with
    | some (.dct kvs), some kk => match getK kvs kk with
      | some (.int i) => (mv env S2).bind fun v S3 => match S3[n]?, v with
        | some (.dct kvs'), .int j => if kvs'.length < 16777216 then .ok (.nx, env) (S3.set n (.dct (putKD kvs' kk (.int (g i j))))) else .bad
        | _, _ => .bad
      | _ => .bad
    | _, _ => .bad
  | _ => .bad
theorem rs_augD {mk : ME} {op : Operator} {g : Int → Int → Int} (hop : InOp X op (fun x y H Q => ∃ i j, x = .int i ∧ y = .int j ∧ Q (.int (g i j)) H)) (hu : X.A.units + 1 < cLine) (ho : PE X o (liE X.K CA ma)) (hk : PE X e (liE X.K CA mk)) (hv : PE X value (liE X.K CA mb))
    (ha : ∀ ov iv new, augStore e ov iv new = (do holding [new, ov, iv] (setItem ov iv new); release [new, ov, iv] []; pure .next) := by intros; rfl) :
    PS X (.AugAssign (.Subscript o e tpos) op value pos) (liS X.K CA (mAugD g ma mk mb)) :=
  ps_imp (ps_daug hu ho hk hv hop ha) fun Dn σ H ⟨ι, S, env, fl, env', S', rs, re, e, q⟩ => by
    obtain ⟨y, S1, e1, ee'⟩ := Res.bind_ok e; clear e; have e := ee'; clear ee'
    obtain ⟨k, S2, e2, ee'⟩ := Res.bind_ok e; clear e; have e := ee'; clear ee'
    refine liE_at rs re e1 fun ι1 w1 H1 x1 rs1 re1 v1 => liE_at rs1 re1 e2 fun ι2 w2 H2 x2 rs2 re2 v2 => ?_
    have v1' := v1.mono x2
    cases v1' with
    | obj n hn' =>
      dsimp only at e
      split at e
      · rename_i kvs kk e4 e5
        obtain ⟨hnl, ws, r, h⟩ := rs2.dct e4
        have ek := key_of_vr v2 e5
        subst ek
        split at e
        · rename_i i e6
          obtain ⟨z, S3, e3, ee'⟩ := Res.bind_ok e; clear e; have e := ee'; clear ee'
          rcases getK_rel (k := kk) r with ⟨g1, g2⟩ | ⟨d, v, g1, g2, g3⟩
          · rw [g1] at e6; cases e6
          · rw [g1] at e6; cases e6
            cases g3
            refine ⟨_, _, rfl, by rw [← g2]; exact DGet.k h, ?_⟩
            refine liE_at rs2 re2 e3 fun ι3 w3 H3 x3 rs3 re3 v3 => ?_
            split at e
            · rename_i kvs' j e7
              split at e
              · rename_i hl
                cases e; cases v3
                obtain ⟨hnl3, ws3, r3, h3⟩ := rs3.dct e7
                have hio : ι3 n = ι2 n := x3.io n hn'
                rw [← hio]
                refine ⟨i, j, rfl, rfl, _, DPut.k h3 (by rw [← Paired.length r3, sizeLine_eq]; exact hl), ?_⟩
                have xs : Ext X.K ι3 S3.length H3 ι3 S3.length (upd H3 (ι3 n) (.dK (putK ws3 kk (.int (g i j))))) := ext_set rs3 hnl3
                have hl2 : (S3.set n (.dct (putKD kvs' kk (.int (g i j))))).length = S3.length := List.length_set
                refine q ι3 σ _ (by rw [hl2]; exact ((x1.trans x2).trans x3).trans xs) (rs3.set hnl3 ⟨_, putK_rel (.int _) (r3.mono xs), upd_same⟩) (by rw [hl2]; exact re3.mono xs)
              · cases e
            · cases e
        · cases e
      · cases e
    | _ => cases e

/-! ### methods -/
def insAt (c : Nat) (x : D) (S : Store) : Option (List (Str × D)) := match x with
  | .obj n => match S[n]? with
    | some (.ins c' fs) => if c' = c then some fs else none
    | _ => none
  | _ => none
theorem insAt_of {ι : Nat → Addr} {S : Store} {H : Hp} {x : D} {v : V} {fs : List (Str × D)} (rs : RS K CA ι S H) (r : VR K ι S.length H x v) (e : insAt c x S = some fs) :
    ∃ p dx ws, v = .ref p ∧ PR K ι S.length H fs ws ∧ H p = some (.ins (CA c) dx ws) := by
  cases r with
  | obj n hn =>
    unfold insAt at e
    dsimp only at e
    split at e
    · rename_i c' fs' e2
      split at e
      · rename_i hc
        subst hc
        cases e
        obtain ⟨_, dx, ws, r, h⟩ := rs.ins e2
        exact ⟨_, dx, ws, rfl, r, h⟩
      · cases e
    · cases e
  | _ => cases e
def mMeth (c : Nat) (m : Str) (fn : Fn) (mo : ME) (mr : MA) : ME := fun env S => (mo env S).bind fun x S1 => match insAt c x S1 with
  | some fs => match getA m fs with
    | none => (mr env S1).bind fun xs S2 => fn (x :: xs) S2
    | some _ => .bad
  | none => .bad
theorem tMeth_of {fn : Fn} {np : Nat} (hlen : es.length + 1 = np) (hmr : ∀ env S ds S', mr env S = .ok ds S' → ds.length = es.length) {σ : St} {H : Hp} {Q : VK} (h : liE X.K CA (mMeth c m fn ma mr) σ H Q) :
    tMeth (CA c) m (spF X.K CA np fn) [] E0 (liE X.K CA ma) (liA X.K CA mr) σ H Q := by
  obtain ⟨ι, S, env, d, S', rs, re, e, q⟩ := h
  obtain ⟨y, S1, e1, ee'⟩ := Res.bind_ok e; clear e; have e := ee'; clear ee'
  refine liE_at rs re e1 fun ι1 v H1 x1 rs1 re1 v1 => ?_
  split at e
  · rename_i fs e2
    obtain ⟨p, dx, ws, rfl, r, h⟩ := insAt_of rs1 v1 e2
    rcases getA_rel (f := m) r with ⟨g1, g2⟩ | ⟨d', v', g1, g2, g3⟩
    · replace e : ((mr env S1).bind fun xs S2 => fn (y :: xs) S2) = .ok d S' := by rw [g1] at e; exact e
      obtain ⟨xs, S2, e3, ee'⟩ := Res.bind_ok e; clear e; have e := ee'; clear ee'
      refine ⟨p, dx, ws, rfl, h, by rw [← getA_lookup]; exact g2, ?_⟩
      refine liA_at rs1 re1 e3 fun ι2 vs H2 x2 rs2 re2 v2 => ?_
      refine ⟨ι2, S2, y :: xs, d, S', rs2, by rw [List.append_nil]; exact .cons (v1.mono x2) v2, by rw [List.length_cons, hmr _ _ _ _ e3]; exact hlen, e, fun ι' v H' x3 => q ι' v H' ((x1.trans x2).trans x3)⟩
    · rw [g1] at e; cases e
  · cases e
theorem re_meth {k g : _} {fd : FuncData} {ps : List Str} {fn : Fn} {np : Nat} {pl : Sem Bool} (hc : Cls X.K (CA c)) (hm : Meth X.K (CA c) m g) (F : FnOk X.prog X.w X.K X.mg X.base CX0 k g fd ps (spF X.K CA np fn)) (hr : Room k X.A) (hb : Binds X.K fd ps [])
    (hlen : (e :: es).length + 1 = np) (hmr : ∀ env S ds S', mr env S = .ok ds S' → ds.length = (e :: es).length) (ho : PE X o (liE X.K CA ma)) (ha : PA X (e :: es) (liA X.K CA mr))
    (hst : starEach (e :: es) X.env = (false, eval e X.env) :: starEach es X.env := by rfl) (hpl : (backTo pos (starEach es X.env)).any (·.1) = false := by rfl)
    (ht : eval (.Call (.Attribute o m apos) (e :: es) [] pos) X.env = (do
      let ov ← eval o X.env
      standAt apos.atName
      let (f, first) ← holding [ov] (getMethod ov m pl)
      callWith pos f first (backTo pos (starEach (e :: es) X.env)) (backToKw pos (keywordEach [] X.env))) := by rfl) :
    PE X (.Call (.Attribute o m apos) (e :: es) [] pos) (liE X.K CA (mMeth c m fn ma mr)) :=
  pe_imp (pe_meth ho hc hm F hr hb .nil pass0 ha hst hpl ht) fun σ H Q h => tMeth_of hlen hmr h
theorem re_meth0 {k g : _} {fd : FuncData} {ps : List Str} {fn : Fn} {np : Nat} {pl : Sem Bool} (hc : Cls X.K (CA c)) (hm : Meth X.K (CA c) m g) (F : FnOk X.prog X.w X.K X.mg X.base CX0 k g fd ps (spF X.K CA np fn)) (hr : Room k X.A) (hb : Binds X.K fd ps [])
    (hlen : 1 = np) (ho : PE X o (liE X.K CA ma))
    (ht : eval (.Call (.Attribute o m apos) [] [] pos) X.env = (do
      let ov ← eval o X.env
      standAt apos.atName
      let (f, first) ← holding [ov] (getMethod ov m pl)
      callWith pos f first (backTo pos (starEach [] X.env)) (backToKw pos (keywordEach [] X.env))) := by rfl) :
    PE X (.Call (.Attribute o m apos) [] [] pos) (liE X.K CA (mMeth c m fn ma mNil)) :=
  pe_imp (pe_meth0 ho hc hm F hr hb .nil pass0 ht) fun σ H Q h => by
    have z := tMeth_of (es := []) hlen (fun env S ds S' h => by cases h; rfl) h
    obtain ⟨ι, S, env, d, S', rs, re, e, q⟩ := z
    refine ⟨ι, S, env, d, S', rs, re, e, fun ι' v H' x r w => ?_⟩
    obtain ⟨p, dx, ws, e1, e2, e3, e4⟩ := q ι' v H' x r w
    refine ⟨p, dx, ws, e1, e2, e3, ?_⟩
    obtain ⟨ι2, S2, env2, d2, S2', rs2, re2, ee, qq⟩ := e4
    cases ee
    exact qq ι2 [] H' Ext.refl rs2 .nil
/-- e.f, a property -/
def mProp (c : Nat) (fn : Fn) (mo : ME) : ME := fun env S => (mo env S).bind fun x S1 => match insAt c x S1 with
  | some _ => fn [x] S1
  | none => .bad
theorem re_prop {k pp g : _} {fd : FuncData} {ps : List Str} {fn : Fn} (hc : Cls X.K (CA c)) (hp : PropOf X.K (CA c) f pp g) (F : FnOk X.prog X.w X.K X.mg X.base CX0 k g fd ps (spF X.K CA 1 fn)) (hr : Room (k + 1) X.A) (hb : Binds X.K fd ps []) (ho : PE X o (liE X.K CA ma))
    (hab : attributeBase o f X.env (eval o X.env) = eval o X.env := by rfl) : PE X (.Attribute o f pos) (liE X.K CA (mProp c fn ma)) :=
  pe_imp (pe_prop ho hc hp F hr hb .nil pass0 hab) fun σ H Q ⟨ι, S, env, d, S', rs, re, e, q⟩ => by
    obtain ⟨y, S1, e1, ee'⟩ := Res.bind_ok e; clear e; have e := ee'; clear ee'
    refine liE_at rs re e1 fun ι1 v H1 x1 rs1 re1 v1 => ?_
    split at e
    · rename_i fs e2
      obtain ⟨p, dx, ws, rfl, r, h⟩ := insAt_of rs1 v1 e2
      exact ⟨p, dx, ws, rfl, h, ι1, S1, [y], d, S', rs1, .cons v1 .nil, rfl, e, fun ι' v H' x2 => q ι' v H' (x1.trans x2)⟩
    · cases e
/-- C(..) -/
def mMake (c : Nat) (fn : Fn) (mr : MA) : ME := fun env S => (mr env S).bind fun xs S1 => (fn (.obj S1.length :: xs) (S1 ++ [.ins c []])).bind fun r S2 => match r with
  | .non => .ok (.obj S1.length) S2
  | _ => .bad
theorem re_make {k g : _} {fd : FuncData} {ps : List Str} {fn : Fn} {np : Nat} (M : Mk X.K (CA c) g) (F : FnOk X.prog X.w X.K X.mg X.base CX0 k g fd ps (spF X.K CA np fn)) (hr : Room (k + 1) X.A) (hg : Gl X x) (hm : X.mg x = some (.ref (CA c))) (hb : Binds X.K fd ps [])
    (hlen : (e :: es).length + 1 = np) (hmr : ∀ env S ds S', mr env S = .ok ds S' → ds.length = (e :: es).length) (ha : PA X (e :: es) (liA X.K CA mr)) (hdb : (x == ("__debug__" : Str)) = false := by decide) (he : starEach (e :: es) X.env = (false, eval e X.env) :: starEach es X.env := by rfl) (hpl : (backTo pos (starEach es X.env)).any (·.1) = false := by rfl) :
    PE X (.Call (.Name x p) (e :: es) [] pos) (liE X.K CA (mMake c fn mr)) :=
  pe_imp (pe_make M F hr hg hm hb .nil pass0 ha hdb he hpl) fun σ H Q ⟨ι, S, env, d, S', rs, re, e, q⟩ => by
    obtain ⟨xs, S1, e1, ee'⟩ := Res.bind_ok e; clear e; have e := ee'; clear ee'
    obtain ⟨r, S2, e2, ee'⟩ := Res.bind_ok e; clear e; have e := ee'; clear ee'
    cases r with
    | non =>
      cases e
      refine liA_at rs re e1 fun ι1 vs H1 x1 rs1 re1 v1 => fun px dx hx hdx hne => ?_
      have y1 : Ext X.K ι1 S1.length H1 ι1 S1.length (upd H1 dx (.own px)) := ext_new hdx
      have hx' : upd H1 dx (.own px) px = none := by rw [upd_ne (Ne.symm hne)]; exact hx
      obtain ⟨a1, a2, a3⟩ := alloc_ok (o := .ins c []) (rs1.new hdx) hx' (u := .ins (CA c) dx []) ⟨dx, [], .nil, upd_same⟩
      refine ⟨_, _, .obj S1.length :: xs, .non, _, a2, by rw [List.append_nil]; exact .cons a3 ((v1.mono y1).mono a1), by rw [List.length_cons, hmr _ _ _ _ e1]; exact hlen, e2, fun ι' v H' x2 rs2 v2 => ?_⟩
      cases v2
      exact ⟨rfl, q ι' _ H' ((x1.trans (y1.trans a1)).trans x2) rs2 (a3.mono x2)⟩
    | _ => cases e

/-! ### methods of lists -/
def isLst (x : D) (S : Store) : Bool := match x with
  | .obj n => match S[n]? with
    | some (.lst _) => true
    | _ => false
  | _ => false
theorem isLst_of {ι : Nat → Addr} {S : Store} {H : Hp} {x : D} {v : V} (rs : RS K CA ι S H) (r : VR K ι S.length H x v) (e : isLst x S = true) : tyV K "list" v H := by
  unfold isLst at e
  cases r with
  | obj n hn =>
    dsimp only at e
    split at e
    · rename_i l e2
      obtain ⟨_, vs, r, h⟩ := rs.lst e2
      exact .inl ⟨rfl, _, SqL.of h⟩
    · cases e
  | _ => cases e
abbrev OM := D → List D → Store → Res D
def mBM (o : OM) (mo : ME) (mr : MA) : ME := fun env S => (mo env S).bind fun x S1 => if isLst x S1 then (mr env S1).bind fun xs S2 => o x xs S2 else .bad
def SimM (K : PySem.W.Frag) (CA : Nat → Addr) (r : V → List V → Hp → VK → Prop) (o : OM) : Prop := ∀ (ι : Nat → Addr) (S : Store) (H : Hp) (v : V) (vs : List V) (x : D) (xs : List D) (d : D) (S' : Store) (Q : VK), RS K CA ι S H → VR K ι S.length H x v → VRs K ι S.length H xs vs → o x xs S = .ok d S' →
  (∀ ι' v H', Ext K ι S.length H ι' S'.length H' → RS K CA ι' S' H' → VR K ι' S'.length H' d v → Q v H') → r v vs H Q
theorem re_bm {id : String} {r : V → List V → Hp → VK → Prop} {om : OM} (slot : Slot "list" m id) (hty : typeOf (.builtin id) = pure (.type "method_descriptor")) (hm : MtR X id r) (hs : SimM X.K CA r om) (ho : PE X o (liE X.K CA ma)) (ha : PA X (e :: es) (liA X.K CA mr))
    (hbase : attributeBase o m X.env (eval o X.env) = eval o X.env := by rfl)
    (hfew : ((backTo cpos (starEach (e :: es) X.env)).all (fun x => !x.1) && (backToKw cpos (keywordEach [] X.env)).all (fun x => x.1.isSome)
      && decide ((e :: es).length + ([] : List Keyword).length + (if ([] : List Keyword).isEmpty then 0 else 1) < 30)) = true := by rfl)
    (hline : (apos.endLine == cpos.line) = true := by rfl) (hst : starEach (e :: es) X.env = (false, eval e X.env) :: starEach es X.env := by rfl) (hplain : (backTo cpos (starEach es X.env)).any (·.1) = false := by rfl) :
    PE X (.Call (.Attribute o m apos) (e :: es) [] cpos) (liE X.K CA (mBM om ma mr)) :=
  pe_imp (pe_bm PySem.F.plainAttrs_list slot hty hm ho ha hbase hfew hline hst hplain) fun σ H Q ⟨ι, S, env, d, S', rs, re, e, q⟩ => by
    obtain ⟨y, S1, e1, ee'⟩ := Res.bind_ok e; clear e; have e := ee'; clear ee'
    refine liE_at rs re e1 fun ι1 v H1 x1 rs1 re1 v1 => ?_
    split at e
    · rename_i hl
      obtain ⟨xs, S2, e2, ee'⟩ := Res.bind_ok e; clear e; have e := ee'; clear ee'
      refine ⟨isLst_of rs1 v1 hl, liA_at rs1 re1 e2 fun ι2 vs H2 x2 rs2 re2 v2 => ?_⟩
      exact hs _ _ _ _ _ _ _ _ _ _ rs2 (v1.mono x2) v2 e fun ι' v H' x3 => q ι' v H' ((x1.trans x2).trans x3)
    · cases e
theorem re_bm0 {id : String} {r : V → List V → Hp → VK → Prop} {om : OM} (slot : Slot "list" m id) (hty : typeOf (.builtin id) = pure (.type "method_descriptor")) (hm : MtR X id r) (hs : SimM X.K CA r om) (ho : PE X o (liE X.K CA ma))
    (hbase : attributeBase o m X.env (eval o X.env) = eval o X.env := by rfl) (hline : (apos.endLine == cpos.line) = true := by rfl) :
    PE X (.Call (.Attribute o m apos) [] [] cpos) (liE X.K CA (mBM om ma mNil)) :=
  pe_imp (pe_bm0 PySem.F.plainAttrs_list slot hty hm ho hbase hline) fun σ H Q ⟨ι, S, env, d, S', rs, re, e, q⟩ => by
    obtain ⟨y, S1, e1, ee'⟩ := Res.bind_ok e; clear e; have e := ee'; clear ee'
    refine liE_at rs re e1 fun ι1 v H1 x1 rs1 re1 v1 => ?_
    split at e
    · rename_i hl
      refine ⟨isLst_of rs1 v1 hl, ?_⟩
      exact hs _ _ _ _ _ _ _ _ _ _ rs1 v1 .nil e fun ι' v H' x3 => q ι' v H' (x1.trans x3)
    · cases e
def oAppend : OM := fun x xs S => match x, xs with
  | .obj n, [d] => match S[n]? with
    | some (.lst l) => if l.length < 16777216 then .ok .non (S.set n (.lst (l ++ [d]))) else .bad
    | _ => .bad
  | _, _ => .bad
theorem lst_set {ι : Nat → Addr} {S : Store} {H : Hp} {n : Nat} {l l' : List D} {vs' : List V} (rs : RS K CA ι S H) (e : S[n]? = some (.lst l)) (r : VRs K ι S.length H l' vs') :
    Ext K ι S.length H ι (S.set n (.lst l')).length (upd H (ι n) (.lst vs')) ∧ RS K CA ι (S.set n (.lst l')) (upd H (ι n) (.lst vs')) := by
  have hn := (rs.lst e).1
  have x : Ext K ι S.length H ι S.length (upd H (ι n) (.lst vs')) := ext_set rs hn
  exact ⟨by rw [List.length_set]; exact x, rs.set hn ⟨vs', r.mono x, upd_same⟩⟩
theorem sim_append : SimM K CA rAppend oAppend := by
  intro ι S H v vs x xs d S' Q rs rx rv e q
  unfold oAppend at e
  split at e
  · split at e
    · rename_i l e1
      split at e
      · rename_i hl
        cases e; cases rx
        cases rv with
        | cons h t =>
          cases t
          obtain ⟨hn, ws, r, hh⟩ := rs.lst e1
          obtain ⟨a1, a2⟩ := lst_set rs e1 (r.append (.one h))
          exact ⟨_, _, _, rfl, rfl, hh, by rw [← r.length, sizeLine_eq]; exact hl, q ι _ _ a1 a2 .non⟩
      · cases e
    · cases e
  · cases e
def oPop : OM := fun x xs S => match x, xs with
  | .obj n, [] => match S[n]? with
    | some (.lst l) => match l[l.length - 1]? with
      | some d => .ok d (S.set n (.lst l.dropLast))
      | none => .bad
    | _ => .bad
  | _, _ => .bad
theorem sim_pop : SimM K CA rPop oPop := by
  intro ι S H v vs x xs d S' Q rs rx rv e q
  unfold oPop at e
  split at e
  · split at e
    · rename_i l e1
      split at e
      · rename_i d' e2
        cases e; cases rx; cases rv
        obtain ⟨hn, ws, r, hh⟩ := rs.lst e1
        obtain ⟨w, h1, h2⟩ := r.get e2
        obtain ⟨a1, a2⟩ := lst_set rs e1 r.dropLast
        exact ⟨_, _, w, rfl, rfl, hh, by rw [← r.length]; exact h1, q ι _ _ a1 a2 (by have := h2.mono a1; exact this)⟩
      · cases e
    · cases e
  · cases e
def oExtend : OM := fun x xs S => match x, xs with
  | .obj n, [.obj m] => match S[n]?, S[m]? with
    | some (.lst l), some (.lst l2) => if l.length + l2.length ≤ 16777216 then .ok .non (S.set n (.lst (l ++ l2))) else .bad
    | _, _ => .bad
  | _, _ => .bad
theorem sim_extend : SimM K CA rExtend oExtend := by
  intro ι S H v vs x xs d S' Q rs rx rv e q
  unfold oExtend at e
  split at e
  · split at e
    · rename_i l l2 e1 e2
      split at e
      · rename_i hl
        cases e; cases rx
        cases rv with
        | cons h t =>
          cases t; cases h
          obtain ⟨hn, ws, r, hh⟩ := rs.lst e1
          obtain ⟨hn2, ws2, r2, hh2⟩ := rs.lst e2
          obtain ⟨a1, a2⟩ := lst_set rs e1 (r.append r2)
          exact ⟨_, _, _, _, rfl, rfl, hh, hh2, by rw [← r.length, ← r2.length, sizeLine_eq]; exact hl, q ι _ _ a1 a2 .non⟩
      · cases e
    · cases e
  · cases e
end

/-! ### targets -/
inductive Tg where
  | nm (i : Nat) | tp (ts : List Tg)
mutual
def Tg.asg : Tg → D → Env → Option Env
  | .nm i, d, env => some (env.set i (some d))
  | .tp ts, d, env => match d with
    | .tup l => Tg.asgs ts l env
    | _ => none
def Tg.asgs : List Tg → List D → Env → Option Env
  | [], [], env => some env
  | t :: ts, d :: ds, env => match Tg.asg t d env with
    | some env1 => Tg.asgs ts ds env1
    | none => none
  | _, _, _ => none
end
mutual
def Tg.slots : Tg → List Nat
  | .nm i => [i]
  | .tp ts => Tg.slotss ts
def Tg.slotss : List Tg → List Nat
  | [] => []
  | t :: ts => Tg.slots t ++ Tg.slotss ts
end
/-- a target as a computation: what it does to the slots and what it leaves -/
structure TGok (K : PySem.W.Frag) (t : Tg) (g : TG) : Prop where
  ok : ∀ {ι : Nat → Addr} {S : Store} {H : Hp} {σ : St} {env env' : Env} {d : D} {v : V} {Q : St → Hp → Prop} {CA : Nat → Addr}, RS K CA ι S H → RE K ι S.length H env σ → VR K ι S.length H d v → Tg.asg t d env = some env' →
    (∀ σ', RE K ι S.length H env' σ' → (∀ vs, (∀ i ∈ Tg.slots t, i ∈ vs) → wipe σ' vs = wipe σ vs) → Q σ' H) → g v σ H Q
structure TGsok (K : PySem.W.Frag) (ts : List Tg) (g : TGs) : Prop where
  ok : ∀ {ι : Nat → Addr} {S : Store} {H : Hp} {σ : St} {env env' : Env} {ds : List D} {vs : List V} {Q : St → Hp → Prop} {CA : Nat → Addr}, RS K CA ι S H → RE K ι S.length H env σ → VRs K ι S.length H ds vs → Tg.asgs ts ds env = some env' →
    (∀ σ', RE K ι S.length H env' σ' → (∀ us, (∀ i ∈ Tg.slotss ts, i ∈ us) → wipe σ' us = wipe σ us) → Q σ' H) → g vs σ H Q
structure PT' (X : Cx) (e : Expr) (t : Tg) (g : TG) : Prop where
  pg : PG X e g
  tok : TGok X.K t g
theorem PT'.ok {X : Cx} {e : Expr} {t : Tg} {g : TG} (h : PT' X e t g) {ι : Nat → Addr} {S : Store} {H : Hp} {σ : St} {env env' : Env} {d : D} {v : V} {Q : St → Hp → Prop} {CA : Nat → Addr} (rs : RS X.K CA ι S H) (re : RE X.K ι S.length H env σ) (vr : VR X.K ι S.length H d v) (e1 : Tg.asg t d env = some env')
    (q : ∀ σ', RE X.K ι S.length H env' σ' → (∀ vs, (∀ i ∈ Tg.slots t, i ∈ vs) → wipe σ' vs = wipe σ vs) → Q σ' H) : g v σ H Q := h.tok.ok rs re vr e1 q
theorem wipe_set {σ : St} {v : Option V} {i : Nat} : ∀ {vs : List Nat}, i ∈ vs → wipe (σ.set i v) vs = wipe σ vs
  | [], h => absurd h (by simp)
  | j :: vs, h => by
    unfold wipe
    by_cases e : i = j
    · subst e
      by_cases hi : i ∈ vs
      · rw [wipe_set hi]
      · have : ∀ {us : List Nat}, i ∉ us → wipe (σ.set i v) us = (wipe σ us).set i v := by
          intro us
          induction us with
          | nil => intro _; rfl
          | cons u us ih =>
            intro hu
            have h1 : i ≠ u := fun e => hu (by rw [e]; exact List.mem_cons_self)
            have h2 : i ∉ us := fun e => hu (List.mem_cons_of_mem _ e)
            unfold wipe
            rw [ih h2, List.set_comm _ _ h1]
        rw [this hi, List.set_set]
    · rw [wipe_set ((List.mem_cons.mp h).resolve_left e)]
theorem tgo_name {K : PySem.W.Frag} {i : Nat} : TGok K (.nm i) (gName i) := ⟨fun rs re vr e h => by
  cases e
  exact h _ (re.set i vr) fun vs hvs => wipe_set (hvs i (by simp [Tg.slots]))⟩
theorem pt_name {X : Cx} {i : Nat} {x : Str} {pos : Pos} (hN : X.N.Nodup) (hi : X.N[i]? = some x) (hx : Loc X.env.scope x) (hf : X.fn x = true ∨ X.env.scope.names.lookup x = some .local := by first | exact .inl rfl | exact .inr rfl | assumption) : PT' X (.Name x pos) (.nm i) (gName i) :=
  ⟨pg_name hN hi hx hf, tgo_name⟩
theorem asgs_len : ∀ {ts : List Tg} {ds : List D} {env env' : Env}, Tg.asgs ts ds env = some env' → ds.length = ts.length
  | [], [], _, _, _ => rfl
  | t :: ts, d :: ds, env, env', h => by
    unfold Tg.asgs at h
    split at h
    · rename_i env1 e1
      rw [List.length_cons, List.length_cons, asgs_len h]
    · cases h
  | [], _ :: _, _, _, h => by cases h
  | _ :: _, [], _, _, h => by cases h
theorem tgs_nil {K : PySem.W.Frag} : TGsok K [] gNil := ⟨fun rs re r e h => by
  cases r with
  | nil => cases e; exact ⟨rfl, h _ re fun us _ => rfl⟩
  | cons h t => cases e⟩
theorem tgs_cons {K : PySem.W.Frag} {t : Tg} {ts : List Tg} {g : TG} {gs : TGs} (h1 : TGok K t g) (h2 : TGsok K ts gs) : TGsok K (t :: ts) (gCons g gs) := ⟨fun {ι S H σ env env' ds vs Q CA} rs re r e h => by
  cases r with
  | nil => cases e
  | cons hv hr =>
    unfold Tg.asgs at e
    split at e
    · rename_i env1 e1
      refine ⟨_, _, rfl, h1.ok rs re hv e1 fun σ1 re1 w1 => h2.ok rs re1 hr e fun σ2 re2 w2 => h σ2 re2 fun us hu => ?_⟩
      rw [w2 us (fun i hi => hu i (by simp [Tg.slotss, hi])), w1 us (fun i hi => hu i (by simp [Tg.slotss, hi]))]
    · cases e⟩
theorem tgo_tup {K : PySem.W.Frag} {ts : List Tg} {g : TGs} {n : Nat} (h : TGsok K ts g) (hn : ts.length = n) : TGok K (.tp ts) (gTup K n g) := ⟨fun {ι S H σ env env' d v Q CA} rs re vr e hq => by
  unfold Tg.asg at e
  cases vr with
  | tup h1 r => exact ⟨_, _, rfl, h1, by rw [← r.length, asgs_len e, hn], h.ok rs re r e hq⟩
  | _ => cases e⟩
structure PTs' (X : Cx) (es : List Expr) (ts : List Tg) (g : TGs) : Prop where
  pg : PGs X es g
  tok : TGsok X.K ts g
theorem pts'_nil {X : Cx} : PTs' X [] [] gNil := ⟨pgs_nil, tgs_nil⟩
theorem pts'_cons {X : Cx} {e : Expr} {es : List Expr} {t : Tg} {ts : List Tg} {g : TG} {gs : TGs} (h1 : PT' X e t g) (h2 : PTs' X es ts gs)
    (hs : (assignEach (e :: es) X.env).map (·.2) = assign e X.env :: (assignEach es X.env).map (·.2) := by rfl) : PTs' X (e :: es) (t :: ts) (gCons g gs) :=
  ⟨pgs_cons h1.pg h2.pg hs, tgs_cons h1.tok h2.tok⟩
theorem pt_tup {X : Cx} {es : List Expr} {k : Nat} {ts : List Tg} {g : TGs} {pos : Pos} {n : Nat} (hc : X.calm = true) (h : PTs' X es ts g) (hn2 : ts.length = n)
    (hn : (assignEach es X.env).length = n := by rfl) (hst : (assignEach es X.env).findIdx? (·.1) = none := by rfl) : PT' X (.Tuple es k pos) (.tp ts) (gTup X.K n g) :=
  ⟨pg_tup hc h.pg hn hst, tgo_tup h.tok hn2⟩
/-- target = value -/
def mAsg (t : Tg) (m : ME) : MS := fun env S => (m env S).bind fun x S1 => match Tg.asg t x env with
  | some env' => .ok (.nx, env') S1
  | none => .bad
theorem rs_asg {X : Cx} {CA : Nat → Addr} {tg e : Expr} {t : Tg} {g : TG} {ma : ME} {pos : Pos} (hg : PT' X tg t g) (he : PE X e (liE X.K CA ma)) (hs : swapsWithSole [tg] e pos.line X.env = pure false := by rfl) (hw : swappedStores [tg] e X.env = pure none := by rfl)
    (h1 : (assignEach [tg] X.env).map (·.2) = [assign tg X.env] := by rfl) : PS X (.Assign [tg] e pos) (liS X.K CA (mAsg t ma)) :=
  ps_imp (ps_asg he hg.pg hs hw h1) fun Dn σ H ⟨ι, S, env, fl, env', S', rs, re, e0, q⟩ => by
    obtain ⟨x, S1, e1, e2⟩ := Res.bind_ok e0
    refine liE_at rs re e1 fun ι1 v H1 x1 rs1 re1 v1 => ?_
    split at e2
    · rename_i env2 e3
      cases e2
      exact hg.ok rs1 re1 v1 e3 fun σ2 re2 _ => q ι1 σ2 H1 x1 rs1 re2
    · cases e2
end Nd

/-! NdF0: enumerate over a tuple. -/
namespace PySem
open Sem (wp)
open AutoSeq1 (wpAny_loadPart')
theorem ndMeetsEnumT (tp : Addr) (xs : Array Value) (cnt : Nat) (dc : Option Addr) (sl : Array (Option Value)) :
    Meets (Builtin.«enumerate.__new__» ⟨[.type "enumerate", .ref tp], []⟩) (fun _ R s =>
      s.heap.get? tp = some { cls := .type "tuple", dict := dc, data := .seq xs cnt, slots := sl } ∧
        R (.ok (.ret (.ref (s.heap.push { cls := .type "tuple_iterator", data := .fields #[.ref tp, .int 0 0] }).objs.size)))
          { s with heap := (s.heap.push { cls := .type "tuple_iterator", data := .fields #[.ref tp, .int 0 0] }).push { cls := .type "enumerate", data := .fields #[.none, .bool false, .ref s.heap.objs.size, rawInt 0, .none, .none] } }) := by
  refine .of_wp fun prog w A R s ⟨h1, h2⟩ => ?_
  obtain ⟨hp, g, d, tk, os⟩ := s
  have hs0 := sub_enumerate
  have hT : Heap.IsTuple (Shared.heap ⟨hp, g, d, tk, os⟩) tp xs := ⟨_, h1, rfl, cnt, rfl⟩
  wp_walk using wpAny_loadPart' h1
  refine wpAny_stack_any fun st => wpAny_pure ?_
  split
  · rename_i c _ _ _ _ _
    cases (c == Value.type "enumerate")
    · wp_walk using wpAny_loadPart' h1, wpAny_pyIter_tuple hT
      exact ⟨_, rfl, h2⟩
    · wp_walk using wpAny_loadPart' h1, wpAny_pyIter_tuple hT
      exact ⟨_, rfl, h2⟩
  · wp_walk using wpAny_loadPart' h1, wpAny_pyIter_tuple hT
    exact ⟨_, rfl, h2⟩
section
variable {prog : Program} {w : World} {A : Around} {E : Value → Shared → Prop} {s : Shared}
theorem ndCallEnumT {tp : Addr} {xs : Array Value} {Q : Value → Shared → Prop} (hT : s.heap.IsTuple tp xs)
    (k : ∀ h', IsEnum h' (s.heap.objs.size + 1) s.heap.objs.size 0 .none → h'.IsTupleIter s.heap.objs.size tp 0 →
      (∀ b o, s.heap.get? b = some o → h'.get? b = some o) → Q (.ref (s.heap.objs.size + 1)) { s with heap := h' }) :
    wpAny (model prog w) A (call (.type "enumerate") [.ref tp]) Q E s := by
  obtain ⟨⟨cl, dc, dt, sl⟩, hl, hc, n, hd⟩ := hT
  replace hc : cl = .type "tuple" := hc
  replace hd : dt = .seq xs n := hd
  subst hc hd
  refine callType_new F.called_enumerate (by decide) (F.typeCall_enumerate_1 _) (F.newCall_enumerate_1 _) (fun ob => F.args_object_init_2 ob _) F.entry_enumerate_new (ndMeetsEnumT tp xs n dc sl) ⟨hl, ?_⟩
  have sz : (s.heap.push { cls := .type "tuple_iterator", data := .fields #[.ref tp, .int 0 0] }).objs.size = s.heap.objs.size + 1 := Heap.size_push ..
  show _ ∧ _
  rw [sz]
  have en : IsEnum ((s.heap.push { cls := .type "tuple_iterator", data := .fields #[.ref tp, .int 0 0] }).push { cls := .type "enumerate", data := .fields #[.none, .bool false, .ref s.heap.objs.size, rawInt 0, .none, .none] }) (s.heap.objs.size + 1) s.heap.objs.size 0 .none := by
    have q := Heap.get?_push_size (s.heap.push { cls := .type "tuple_iterator", data := .fields #[.ref tp, .int 0 0] }) (o := { cls := .type "enumerate", data := .fields #[.none, .bool false, .ref s.heap.objs.size, rawInt 0, .none, .none] }) rfl
    rw [sz] at q; exact q
  exact ⟨⟨_, en, rfl⟩, k _ en ⟨_, Heap.get?_push_of_some _ (Heap.get?_push_size _ rfl), rfl, rfl⟩ fun b o x => Heap.get?_push_of_some _ (Heap.get?_push_of_some _ x)⟩
end
end PySem

namespace Nd
open PySem PySem.Spec PyProof.Rows L2
/-- the tuple at a, each item in a new pair with its place -/
def IteT (K : PySem.W.Frag) (a : Addr) : It :=
  ⟨fun i H => ∃ (xs : List V) (x : V), SqT K H a xs ∧ xs[i]? = some x, fun i H v H' => ∃ T x, v = .ref T ∧ H T = none ∧ H' = upd H T (.tup [.int (i : Nat), x]) ∧ ∀ xs, SqT K H a xs → xs[i]? = some x, fun i H => ∃ xs : List V, SqT K H a xs ∧ xs.length = i⟩
theorem turn_enumT {P : Program} {w : World} {K : PySem.W.Frag} {elts : List Expr} {kk : Nat} {tpos : Pos} (a e it : Addr) :
    Turn P w K (.Tuple elts kk tpos) (IteT K a) [e, it] e (fun i h => (∃ old, IsEnum h e it ((i : Nat) : Int) old) ∧ h.IsTupleIter it a i ∧ e ≠ it ∧ a ≠ it ∧ a ≠ e) where
  mem := by simp
  obj := fun i h st b hb => by
    obtain ⟨⟨old, he⟩, ⟨o, ho, hc, hd⟩, _⟩ := st
    rcases (show b = e ∨ b = it by simpa using hb) with z | z
    · rw [z]; exact ⟨_, he, fun v q => nomatch q⟩
    · rw [z]; exact ⟨o, ho, fun v q => by rw [hd] at q; cases q⟩
  keep := fun i h h' st k => let ⟨⟨old, he⟩, hi, hne⟩ := st; ⟨⟨old, k e (by simp) _ he⟩, hi.at fun o q => k it (by simp) o q, hne⟩
  item := by
    intro X hP hw hK hc i pins s σ H E I hf st hg
    subst hP hw hK
    obtain ⟨⟨old, he⟩, hit, hne, ha1, ha2⟩ := st
    obtain ⟨xs, x, hq, hx⟩ := hg
    obtain ⟨its, rv, p, hz⟩ := I.tuple hq
    obtain ⟨u, hu, ru⟩ := rv.get hx
    have hel : e < s.heap.objs.size := Heap.lt_size he
    have hil : it < s.heap.objs.size := by obtain ⟨_, q, _⟩ := hit; exact Heap.lt_size q
    have hi' : i < its.toArray.size := by
      have := (List.getElem?_eq_some_iff.mp hu).1
      simpa using this
    have D := Draws.tuple (prog := X.prog) (w := X.w) (A := X.A.in1) (I.ok.hd hc) it a ha1 its.toArray
    refine wpAny_pyNext_enum_itemD (P := fun i v => its.toArray[i]? = some v) D he ⟨hit, p⟩ hi' hne (by simp; exact ⟨hne, Ne.symm ha2⟩) fun y h' tk hy ho hst' hT hsz hk => ?_
    have ey : y = u := by
      have : its[i]? = some y := by simpa using hy
      rw [hu] at this; exact (Option.some.inj this).symm
    subst ey
    refine ⟨_, rfl, wpAny_letOwnedTupleGo_enum (s := { s with heap := h', toks := tk + 1 }) ho fun h'' he' sb => ?_⟩
    have hT2 : h''.get? s.heap.objs.size = some { cls := .type "tuple", data := .seq #[.int i tk, y] } := (sb.2 _ (Nat.ne_of_gt hel)).trans hT
    have new : ObjOk X.prog X.w (upd H s.heap.objs.size (.tup [.int (i : Nat), x])) h'' s.heap.objs.size (.tup [.int (i : Nat), x]) :=
      ⟨by show 2 ≤ sizeLine; decide, [.int i tk, y], .cons ⟨_, rfl⟩ (.cons ru .nil), ⟨_, hT2, rfl, _, rfl⟩⟩
    have I1 : Inv X pins σ (upd H s.heap.objs.size (.tup [.int (i : Nat), x])) { s with heap := h'', toks := tk + 1 } :=
      I.turnedNew (ch := [e, it]) (fun b ob hb q => (sb.2 b (fun z => hb (by simp [z]))).trans (hk b ob (fun z => hb (by simp [z])) (fun z => hb (by simp [z])) q)) hf (Nat.le_refl _) new
    refine ⟨.ref s.heap.objs.size, _, I1, rfl, ⟨_, x, rfl, I.hok.fresh (Nat.le_refl _), rfl, fun ys hy => by rw [I.tuple_inj hy hq]; exact hx⟩, ⟨⟨y, ?_⟩, hst'.1.at fun o q => (sb.2 it (Ne.symm hne)).trans q, hne, ha1, ha2⟩, fun b hb => ?_⟩
    · rw [show ((i + 1 : Nat) : Int) = (i : Int) + 1 by omega]; exact he'
    · have hb' : b < s.heap.objs.size := by
        rcases (show b = e ∨ b = it by simpa using hb) with z | z
        · rw [z]; exact hel
        · rw [z]; exact hil
      rw [upd_ne (Nat.ne_of_lt hb')]
      exact (hf b hb).1
  done := by
    intro X hP hw hK hc i pins s σ H E I hf st hg
    subst hP hw hK
    obtain ⟨⟨old, he⟩, hit, hne, ha1, ha2⟩ := st
    obtain ⟨xs, hq, hx⟩ := hg
    obtain ⟨its, rv, p, hz⟩ := I.tuple hq
    obtain ⟨f0, f1, f2, f3, f4, f5⟩ := hf it (by simp)
    have hl := rv.length
    have hn : i = its.toArray.size := by simp; omega
    have D := Draws.tuple (prog := X.prog) (w := X.w) (A := X.A.in1) (I.ok.hd hc) it a ha1 its.toArray
    refine wpAny_pyNext_enum_endD (P := fun i v => its.toArray[i]? = some v) D he ⟨by rw [← hn]; exact hit, p⟩ fun h' eb => ⟨rfl, I.turned (t' := s.toks) (fun b o hb q => eb b o hb q) f0 f1 f3 f4 f5⟩
  self := fun A i s Q E st h => let ⟨⟨_, he⟩, _⟩ := st; wpAny_pyIter_enum he h
def iEnumT (K : PySem.W.Frag) (ta : TA) : TI := fun σ H R => ta σ H fun vs H1 => ∃ a xs, vs = [.ref a] ∧ SqT K H1 a xs ∧ R (IteT K a) H1
theorem pi_enumT {X : Cx} {e : Expr} {ta : TA} {p pos tpos : Pos} {elts : List Expr} {kk : Nat} (hg : Gl X "enumerate") (hm : X.mg "enumerate" = none) (ha : PA X [e] ta) (hs : starEach [e] X.env = [(false, eval e X.env)] := by rfl) :
    PI X (.Tuple elts kk tpos) (.Call (.Name "enumerate" p) [e] [] pos) (iEnumT X.K ta) := by
  refine ⟨fun pins s σ H R I h => ?_⟩
  refine Call_ (ld_blt I hg hm boot_enumerate (PyProof.Rows.callWith_type1 (thn (ha.run pos pins s σ H _ I h) fun us s1 ⟨vs, H1, I1, r1, q1⟩ => ?_) hs rfl))
  obtain ⟨a, xs, ex, hq, q⟩ := q1
  subst ex
  cases r1 with
  | cons r rr =>
    cases rr
    cases r
    obtain ⟨its, rv, p', hz⟩ := I1.tuple hq
    have hal : a < s1.heap.objs.size := p'.lt
    refine ndCallEnumT p' fun h' he hit hk => wpAny_pyIter_enum he ?_
    have I2 : Inv X pins σ H1 { s1 with heap := h' } := I1.kept (t' := s1.toks) hk
    refine ⟨s1.heap.objs.size + 1, [s1.heap.objs.size + 1, s1.heap.objs.size], _, _, H1, rfl, I2, turn_enumT a (s1.heap.objs.size + 1) s1.heap.objs.size, ⟨⟨.none, he⟩, hit, Nat.succ_ne_self _, Nat.ne_of_lt hal, Nat.ne_of_lt (Nat.lt_succ_of_lt hal)⟩, fun b hb => ?_, q⟩
    have hle : s1.heap.objs.size ≤ b := by
      rcases (show b = s1.heap.objs.size + 1 ∨ b = s1.heap.objs.size by simpa using hb) with z | z
      · rw [z]; exact Nat.le_add_right _ _
      · rw [z]; exact Nat.le_refl _
    exact I1.fpOk hle (I1.hok.fresh hle)
end Nd

/-! NdF: loops, what they walk, comprehensions. -/
namespace Nd
open PySem L2
variable {K : PySem.W.Frag} {CA : Nat → Addr}

/-! ### what a loop walks -/
abbrev Guard := Option (Nat × O)
def gok : Guard → Store → Prop
  | none, _ => True
  | some (n, o), S => S[n]? = some o
abbrev MI := Env → Store → Res (List D × Guard)
structure WalkD (K : PySem.W.Frag) (CA : Nat → Addr) (J : It) (ds : List D) (g : Guard) (ι : Nat → Addr) (N : Nat) (H : Hp) : Prop where
  goes : ∀ (i : Nat) (ι2 : Nat → Addr) (S2 : Store) (H2 : Hp), i < ds.length → Ext K ι N H ι2 S2.length H2 → RS K CA ι2 S2 H2 → gok g S2 → J.go i H2
  stops : ∀ (ι2 : Nat → Addr) (S2 : Store) (H2 : Hp), Ext K ι N H ι2 S2.length H2 → RS K CA ι2 S2 H2 → gok g S2 → J.stop ds.length H2
  yields : ∀ (i : Nat) (d : D) (ι2 : Nat → Addr) (S2 : Store) (H2 : Hp) (x : V) (H3 : Hp), ds[i]? = some d → Ext K ι N H ι2 S2.length H2 → RS K CA ι2 S2 H2 → gok g S2 → J.yld i H2 x H3 →
    Ext K ι2 S2.length H2 ι2 S2.length H3 ∧ RS K CA ι2 S2 H3 ∧ VR K ι2 S2.length H3 d x
variable (K CA) in
def liI (m : MI) : TI := fun σ H R => ∃ (ι : Nat → Addr) (S : Store) (env : Env) (ds : List D) (g : Guard) (S' : Store), RS K CA ι S H ∧ RE K ι S.length H env σ ∧ m env S = .ok (ds, g) S' ∧
  ∀ ι' J H', Ext K ι S.length H ι' S'.length H' → RS K CA ι' S' H' → WalkD K CA J ds g ι' S'.length H' → R J H'
theorem pi_imp {X : Cx} {tg e : Expr} {t t' : TI} (p : PI X tg e t) (h : ∀ σ H R, t' σ H R → t σ H R) : PI X tg e t' := ⟨fun pins s σ H R I q => p.run pins s σ H R I (h σ H R q)⟩
theorem pi_or {X : Cx} {tg e : Expr} {t t' : TI} (p : PI X tg e t) (p' : PI X tg e t') : PI X tg e (fun σ H R => t σ H R ∨ t' σ H R) := ⟨fun pins s σ H R I q => by
  rcases q with q | q
  · exact p.run pins s σ H R I q
  · exact p'.run pins s σ H R I q⟩
open Classical in
noncomputable def loopS (t : Tg) (mb : MS) (g : Guard) : List D → Env → Store → Res (Fl × Env)
  | [], env, S => if gok g S then .ok (.nx, env) S else .bad
  | d :: ds, env, S => if gok g S then (match Tg.asg t d env with
    | none => .bad
    | some env1 => (mb env1 S).bind fun r S2 => match r with
      | (.nx, env2) => loopS t mb g ds env2 S2
      | (.ct, env2) => loopS t mb g ds env2 S2
      | (.bk, env2) => .ok (.nx, env2) S2
      | (.rt v, env2) => .ok (.rt v, env2) S2) else .bad
noncomputable def mFor (mi : MI) (t : Tg) (mb : MS) : MS := fun env S => (mi env S).bind fun r S1 => loopS t mb r.2 r.1 env S1
section
variable {X : Cx} {tg iter e a b : Expr} {es : List Expr} {body : List Stmt} {pos p tpos : Pos} {t : Tg} {g : TG} {mi : MI} {mb : MS} {ma : ME} {mr : MA} {x : Str}
theorem rs_for (hp : PassesOwn (model X.prog X.w) X.A X.env X.xe) (hc : X.calm = true) (hi : PI X tg iter (liI X.K CA mi)) (hg : PT' X tg t g) (hb : PSs X body (liS X.K CA mb))
    (hs : ∀ x, foldedSetIterable iter X.env x = pure x := by intro _; rfl) : PS X (.For tg iter body [] pos) (liS X.K CA (mFor mi t mb)) :=
  ps_imp (ps_for hp hc hi hg.pg hb hs) fun Dn σ H ⟨ι, S, env, fl, env', S', rs, re, e0, q⟩ => by
    obtain ⟨⟨ds, gd⟩, S1, e1, e2⟩ := Res.bind_ok e0
    refine ⟨ι, S, env, ds, gd, S1, rs, re, e1, fun ι1 J H1 x1 rs1 wk => ?_⟩
    refine ⟨fun i m σ2 H2 => m = ds.length - i ∧ i ≤ ds.length ∧ ∃ (ι2 : Nat → Addr) (S2 : Store) (env2 : Env), Ext X.K ι1 S1.length H1 ι2 S2.length H2 ∧ RS X.K CA ι2 S2 H2 ∧ RE X.K ι2 S2.length H2 env2 σ2 ∧ loopS t mb gd (ds.drop i) env2 S2 = .ok (fl, env') S',
      ⟨_, rfl, Nat.zero_le _, ι1, S1, env, Ext.refl, rs1, re.mono x1, e2⟩, ?_⟩
    rintro i m σ2 H2 ⟨rfl, hi2, ι2, S2, env2, x2, rs2, re2, e3⟩
    by_cases hlt : i < ds.length
    · have hd : ds.drop i = ds[i] :: ds.drop (i + 1) := List.drop_eq_getElem_cons hlt
      rw [hd] at e3
      unfold loopS at e3
      split at e3
      case isFalse => cases e3
      rename_i hgk
      split at e3
      case h_1 => cases e3
      rename_i env3 e4
      obtain ⟨⟨fl3, env4⟩, S3, e5, e6⟩ := Res.bind_ok e3
      refine .inr ⟨wk.goes i ι2 S2 H2 hlt x2 rs2 hgk, fun σ5 H5 => ∃ (ι5 : Nat → Addr) (S5 : Store) (env5 : Env), Ext X.K ι1 S1.length H1 ι5 S5.length H5 ∧ RS X.K CA ι5 S5 H5 ∧ RE X.K ι5 S5.length H5 env5 σ5 ∧ loopS t mb gd (ds.drop (i + 1)) env5 S5 = .ok (fl, env') S',
        fun σ5 H5 ⟨ι5, S5, env5, a1, a2, a3, a4⟩ => ⟨ds.length - (i + 1), by omega, rfl, hlt, ι5, S5, env5, a1, a2, a3, a4⟩, fun y H3 hy => ?_⟩
      obtain ⟨w1, w2, w3⟩ := wk.yields i ds[i] ι2 S2 H2 y H3 (List.getElem?_eq_getElem hlt) x2 rs2 hgk hy
      refine hg.ok w2 (re2.mono w1) w3 e4 fun σ3 re3 _ => ?_
      have x3 := x2.trans w1
      refine ⟨ι2, S2, env3, fl3, env4, S3, w2, re3, e5, ?_⟩
      cases fl3 with
      | nx => exact fun ι5 σ5 H5 x5 rs5 re5 => ⟨ι5, S3, env4, x3.trans x5, rs5, re5, e6⟩
      | ct => exact fun ι5 σ5 H5 x5 rs5 re5 => ⟨ι5, S3, env4, x3.trans x5, rs5, re5, e6⟩
      | bk =>
        cases e6
        exact fun ι5 σ5 H5 x5 rs5 re5 => q ι5 σ5 H5 (x1.trans (x3.trans x5)) rs5 re5
      | rt v =>
        cases e6
        exact fun ι5 v5 H5 x5 rs5 re5 => q ι5 v5 H5 (x1.trans (x3.trans x5)) rs5 re5
    · have hd : ds.drop i = [] := List.drop_eq_nil_of_le (by omega)
      rw [hd] at e3
      unfold loopS at e3
      split at e3
      case isFalse => cases e3
      rename_i hgk
      cases e3
      have hi3 : i = ds.length := by omega
      rw [hi3]
      exact .inl ⟨wk.stops ι2 _ H2 x2 rs2 hgk, q ι2 σ2 H2 (x1.trans x2) rs2 re2⟩

/-! a list, a tuple -/
def mSeqI (ma : ME) : MI := fun env S => (ma env S).bind fun x S1 => match x with
  | .tup l => .ok (l, none) S1
  | .ro l => .ok (l, none) S1
  | .obj n => match S1[n]? with
    | some (.lst l) => .ok (l, some (n, .lst l)) S1
    | _ => .bad
  | _ => .bad
theorem walkD_tup {ι : Nat → Addr} {N : Nat} {H : Hp} {a : Addr} {ds : List D} {vs : List V} (h : SqT K H a vs) (r : VRs K ι N H ds vs) : WalkD K CA (Itt K a) ds none ι N H where
  goes := fun i ι2 S2 H2 hi x _ _ => ⟨vs, vs[i]'(by rw [← r.length]; exact hi), x.tp _ _ h, by simp⟩
  stops := fun ι2 S2 H2 x _ _ => ⟨vs, x.tp _ _ h, by rw [r.length]; exact Nat.le_refl _⟩
  yields := fun i d ι2 S2 H2 y H3 hd x rs _ hy => by
    obtain ⟨rfl, hy⟩ := hy
    obtain ⟨v, h1, h2⟩ := r.get hd
    have := hy vs (x.tp _ _ h)
    rw [h1] at this; cases this
    exact ⟨Ext.refl, rs, h2.mono x⟩
theorem walkD_ro {ι : Nat → Addr} {N : Nat} {H : Hp} {a : Addr} {ds : List D} {vs : List V} (h : SqR K H a vs) (r : VRs K ι N H ds vs) : WalkD K CA (Itl K a) ds none ι N H where
  goes := fun i ι2 S2 H2 hi x _ _ => ⟨vs, vs[i]'(by rw [← r.length]; exact hi), (x.rp _ _ h).l, by simp⟩
  stops := fun ι2 S2 H2 x _ _ => ⟨vs, (x.rp _ _ h).l, by rw [r.length]; exact Nat.le_refl _⟩
  yields := fun i d ι2 S2 H2 y H3 hd x rs _ hy => by
    obtain ⟨rfl, hy⟩ := hy
    obtain ⟨v, h1, h2⟩ := r.get hd
    have := hy vs (x.rp _ _ h).l
    rw [h1] at this; cases this
    exact ⟨Ext.refl, rs, h2.mono x⟩
theorem walkD_lst {ι : Nat → Addr} {N : Nat} {H : Hp} {n : Nat} {ds : List D} (hn : n < N) : WalkD K CA (Itl K (ι n)) ds (some (n, .lst ds)) ι N H where
  goes := fun i ι2 S2 H2 hi x rs hg => by
    obtain ⟨_, vs, r, h⟩ := rs.lst hg
    rw [x.io n hn] at h
    exact ⟨vs, vs[i]'(by rw [← r.length]; exact hi), SqL.of h, by simp⟩
  stops := fun ι2 S2 H2 x rs hg => by
    obtain ⟨_, vs, r, h⟩ := rs.lst hg
    rw [x.io n hn] at h
    exact ⟨vs, SqL.of h, by rw [r.length]; exact Nat.le_refl _⟩
  yields := fun i d ι2 S2 H2 y H3 hd x rs hg hy => by
    obtain ⟨rfl, hy⟩ := hy
    obtain ⟨_, vs, r, h⟩ := rs.lst hg
    rw [x.io n hn] at h
    obtain ⟨v, h1, h2⟩ := r.get hd
    have := hy vs (SqL.of h)
    rw [h1] at this; cases this
    exact ⟨Ext.refl, rs, h2⟩
theorem ri_seq (ha : PE X a (liE X.K CA ma)) : PI X tg a (liI X.K CA (mSeqI ma)) :=
  pi_imp (pi_or (pi_list ha) (pi_tup ha)) fun σ H R ⟨ι, S, env, ds, g, S', rs, re, e0, q⟩ => by
    obtain ⟨y, S1, e1, e2⟩ := Res.bind_ok e0
    cases y with
    | tup l =>
      cases e2
      refine .inr (liE_at rs re e1 fun ι1 v H1 x1 rs1 re1 v1 => ?_)
      cases v1 with
      | tup h r => exact ⟨_, rfl, ⟨_, h⟩, q ι1 _ H1 x1 rs1 (walkD_tup h r)⟩
    | ro l =>
      cases e2
      refine .inl (liE_at rs re e1 fun ι1 v H1 x1 rs1 re1 v1 => ?_)
      cases v1 with
      | ro h r => exact ⟨_, rfl, ⟨_, h.l⟩, q ι1 _ H1 x1 rs1 (walkD_ro h r)⟩
    | obj n =>
      dsimp only at e2
      split at e2
      · rename_i l e3
        cases e2
        refine .inl (liE_at rs re e1 fun ι1 v H1 x1 rs1 re1 v1 => ?_)
        cases v1 with
        | obj n hn =>
          obtain ⟨_, vs, r, h⟩ := rs1.lst e3
          exact ⟨_, rfl, ⟨_, SqL.of h⟩, q ι1 _ H1 x1 rs1 (walkD_lst hn)⟩
      · cases e2
    | _ => cases e2
/-! a list just made -/
def mSeqL (m : MA) : MI := fun env S => (m env S).bind fun l S1 => .ok (l, none) S1
theorem ri_seqL {m : MA} (ha : PE X a (liL X.K CA m)) : PI X tg a (liI X.K CA (mSeqL m)) :=
  pi_imp (pi_list ha) fun σ H R ⟨ι, S, env, ds, g, S', rs, re, e0, q⟩ => by
    obtain ⟨l, S1, e1, e2⟩ := Res.bind_ok e0
    cases e2
    refine liL_at rs re e1 fun ι1 a vs H1 x1 rs1 re1 v1 hA hn h0 => ⟨_, rfl, ⟨_, SqL.of hA⟩, q ι1 _ H1 x1 rs1 ?_⟩
    refine ⟨fun i ι2 S2 H2 hi x _ _ => ⟨vs, vs[i]'(by rw [← v1.length]; exact hi), SqL.of (x.fr _ _ hA hn), by simp⟩, fun ι2 S2 H2 x _ _ => ⟨vs, SqL.of (x.fr _ _ hA hn), by rw [v1.length]; exact Nat.le_refl _⟩, fun i d ι2 S2 H2 y H3 hd x rs _ hy => ?_⟩
    obtain ⟨rfl, hy⟩ := hy
    obtain ⟨v, h1, h2⟩ := v1.get hd
    have := hy vs (SqL.of (x.fr _ _ hA hn))
    rw [h1] at this; cases this
    exact ⟨Ext.refl, rs, h2.mono x⟩
/-! range -/
def rangeD (lo : Int) (n : Nat) : List D := (List.range n).map fun k => .int (lo + (k : Nat))
theorem walkD_range {ι : Nat → Addr} {N : Nat} {H : Hp} {lo : Int} {n : Nat} : WalkD K CA (Itr lo n) (rangeD lo n) none ι N H where
  goes := fun i ι2 S2 H2 hi _ _ _ => by show i < n; simpa [rangeD] using hi
  stops := fun ι2 S2 H2 _ _ _ => by show n ≤ (rangeD lo n).length; simp [rangeD]
  yields := fun i d ι2 S2 H2 y H3 hd x rs _ hy => by
    obtain ⟨rfl, rfl⟩ := hy
    unfold rangeD at hd
    rw [List.getElem?_map] at hd
    cases h : (List.range n)[i]? with
    | none => rw [h] at hd; cases hd
    | some k =>
      rw [h] at hd
      cases hd
      have : k = i := by
        obtain ⟨h1, h2⟩ := List.getElem?_eq_some_iff.mp h
        simpa using h2.symm
      subst this
      exact ⟨Ext.refl, rs, .int _⟩
def mRange (mr : MA) : MI := fun env S => (mr env S).bind fun xs S1 => match xs with
  | [.int j] => if -(2 ^ 62) ≤ j ∧ j < 2 ^ 62 then .ok (rangeD 0 j.toNat, none) S1 else .bad
  | [.int i, .int j] => if -(2 ^ 62) ≤ i ∧ i < 2 ^ 62 ∧ -(2 ^ 62) ≤ j ∧ j < 2 ^ 62 then .ok (rangeD i (j - i).toNat, none) S1 else .bad
  | _ => .bad
theorem ri_range1 (hg : Gl X "range") (hm : X.mg "range" = none) (ha : PA X [a] (liA X.K CA mr)) (hl : ∀ env S ds S', mr env S = .ok ds S' → ds.length = 1) (hs : starEach [a] X.env = [(false, eval a X.env)] := by rfl) : PI X tg (.Call (.Name "range" p) [a] [] pos) (liI X.K CA (mRange mr)) :=
  pi_imp (pi_range1 hg hm ha hs) fun σ H R ⟨ι, S, env, ds, g, S', rs, re, e0, q⟩ => by
    obtain ⟨xs, S1, e1, e2⟩ := Res.bind_ok e0
    have hl1 := hl _ _ _ _ e1
    refine liA_at rs re e1 fun ι1 v H1 x1 rs1 re1 v1 => ?_
    split at e2
    · split at e2
      · rename_i j hj
        cases e2
        cases v1 with
        | cons h t =>
          cases t; cases h
          exact ⟨j, rfl, hj.1, hj.2, q ι1 _ H1 x1 rs1 walkD_range⟩
      · cases e2
    · simp at hl1
    · cases e2
theorem ri_range2 (hg : Gl X "range") (hm : X.mg "range" = none) (ha : PA X [a, b] (liA X.K CA mr)) (hl : ∀ env S ds S', mr env S = .ok ds S' → ds.length = 2) (hs : starEach [a, b] X.env = [(false, eval a X.env), (false, eval b X.env)] := by rfl) (hs2 : starEach [b] X.env = [(false, eval b X.env)] := by rfl) : PI X tg (.Call (.Name "range" p) [a, b] [] pos) (liI X.K CA (mRange mr)) :=
  pi_imp (pi_range2 hg hm ha hs hs2) fun σ H R ⟨ι, S, env, ds, g, S', rs, re, e0, q⟩ => by
    obtain ⟨xs, S1, e1, e2⟩ := Res.bind_ok e0
    have hl1 := hl _ _ _ _ e1
    refine liA_at rs re e1 fun ι1 v H1 x1 rs1 re1 v1 => ?_
    split at e2
    · simp at hl1
    · split at e2
      · rename_i i j hj
        cases e2
        cases v1 with
        | cons h t =>
          cases t with
          | cons h2 t => cases t; cases h; cases h2; exact ⟨i, j, rfl, hj, q ι1 _ H1 x1 rs1 walkD_range⟩
      · cases e2
    · cases e2
/-! enumerate -/
def enumD : Nat → List D → List D
  | _, [] => []
  | k, d :: ds => .tup [.int (k : Nat), d] :: enumD (k + 1) ds
theorem enumD_length : ∀ (k : Nat) (ds : List D), (enumD k ds).length = ds.length
  | _, [] => rfl
  | k, d :: ds => by unfold enumD; rw [List.length_cons, List.length_cons, enumD_length]
theorem enumD_get : ∀ (k : Nat) (ds : List D) (i : Nat) (y : D), (enumD k ds)[i]? = some y → ∃ d, ds[i]? = some d ∧ y = .tup [.int ((k + i : Nat) : Int), d]
  | _, [], _, _, h => by simp [enumD] at h
  | k, d :: ds, 0, y, h => by
    unfold enumD at h
    simp at h
    exact ⟨d, rfl, h.symm⟩
  | k, d :: ds, i + 1, y, h => by
    unfold enumD at h
    obtain ⟨d', h1, h2⟩ := enumD_get (k + 1) ds i y (by simpa using h)
    refine ⟨d', by simpa using h1, ?_⟩
    rw [h2]
    have : k + 1 + i = k + (i + 1) := by omega
    rw [this]
theorem pair_ok {ι : Nat → Addr} {S : Store} {H : Hp} {T : Addr} {d : D} {v : V} {i : Int} (rs : RS K CA ι S H) (hT : H T = none) (r : VR K ι S.length H d v) :
    Ext K ι S.length H ι S.length (upd H T (.tup [.int i, v])) ∧ RS K CA ι S (upd H T (.tup [.int i, v])) ∧ VR K ι S.length (upd H T (.tup [.int i, v])) (.tup [.int i, d]) (.ref T) :=
  ⟨ext_new hT, rs.new hT, .tup (SqT.of upd_same) (.cons (.int i) (.cons (r.mono (ext_new hT)) .nil))⟩
def mEnum (ma : ME) : MI := fun env S => (mSeqI ma env S).bind fun r S1 => .ok (enumD 0 r.1, r.2) S1
theorem ri_enum {elts : List Expr} {kk : Nat} (hg : Gl X "enumerate") (hm : X.mg "enumerate" = none) (ha : PE X a (liE X.K CA ma)) (hs : starEach [a] X.env = [(false, eval a X.env)] := by rfl) : PI X (.Tuple elts kk tpos) (.Call (.Name "enumerate" p) [a] [] pos) (liI X.K CA (mEnum ma)) :=
  pi_imp (pi_or (pi_enum hg hm (pa_cons ha pa_nil hs) hs) (pi_enumT hg hm (pa_cons ha pa_nil hs) hs)) fun σ H R ⟨ι, S, env, ds, g, S', rs, re, e0, q⟩ => by
    obtain ⟨⟨l, g2⟩, S1, e1', e2'⟩ := Res.bind_ok e0
    cases e2'
    obtain ⟨y, S1, e1, e2⟩ := Res.bind_ok e1'
    cases y with
    | tup l =>
      cases e2
      refine .inr (liE_at rs re e1 fun ι1 v H1 x1 rs1 re1 v1 => ?_)
      cases v1 with
      | tup h r =>
        refine ⟨_, _, rfl, h, q ι1 _ H1 x1 rs1 ⟨fun i ι2 S2 H2 hi x _ _ => ?_, fun ι2 S2 H2 x _ _ => ⟨_, x.tp _ _ h, ?_⟩, fun i d ι2 S2 H2 y H3 hd x rs2 _ hy => ?_⟩⟩
        · rw [enumD_length] at hi
          exact ⟨_, _, x.tp _ _ h, List.getElem?_eq_getElem (by rw [← r.length]; exact hi)⟩
        · rw [enumD_length, r.length]
        · obtain ⟨T, w, rfl, hT, rfl, hw⟩ := hy
          obtain ⟨d', h1, rfl⟩ := enumD_get 0 _ i d hd
          obtain ⟨v', h2, h3⟩ := r.get h1
          have := hw _ (x.tp _ _ h)
          rw [h2] at this; cases this
          rw [Nat.zero_add]
          exact pair_ok rs2 hT (h3.mono x)
    | ro l =>
      cases e2
      refine .inl (liE_at rs re e1 fun ι1 v H1 x1 rs1 re1 v1 => ?_)
      cases v1 with
      | ro h r =>
        refine ⟨_, _, rfl, h.l, q ι1 _ H1 x1 rs1 ⟨fun i ι2 S2 H2 hi x _ _ => ?_, fun ι2 S2 H2 x _ _ => ⟨_, (x.rp _ _ h).l, ?_⟩, fun i d ι2 S2 H2 y H3 hd x rs2 _ hy => ?_⟩⟩
        · rw [enumD_length] at hi
          exact ⟨_, _, (x.rp _ _ h).l, List.getElem?_eq_getElem (by rw [← r.length]; exact hi)⟩
        · rw [enumD_length, r.length]; exact Nat.le_refl _
        · obtain ⟨T, w, rfl, hT, rfl, hw⟩ := hy
          obtain ⟨d', h1, rfl⟩ := enumD_get 0 _ i d hd
          obtain ⟨v', h2, h3⟩ := r.get h1
          have := hw _ (x.rp _ _ h).l
          rw [h2] at this; cases this
          rw [Nat.zero_add]
          exact pair_ok rs2 hT (h3.mono x)
    | obj n =>
      dsimp only at e2
      split at e2
      · rename_i l e3
        cases e2
        refine .inl (liE_at rs re e1 fun ι1 v H1 x1 rs1 re1 v1 => ?_)
        cases v1 with
        | obj n hn =>
          obtain ⟨_, vs, r, h⟩ := rs1.lst e3
          refine ⟨_, _, rfl, SqL.of h, q ι1 _ H1 x1 rs1 ⟨fun i ι2 S2 H2 hi x rs2 hg => ?_, fun ι2 S2 H2 x rs2 hg => ?_, fun i d ι2 S2 H2 y H3 hd x rs2 hg hy => ?_⟩⟩
          · obtain ⟨_, vs2, r2, h2⟩ := rs2.lst hg
            rw [x.io n hn] at h2
            rw [enumD_length] at hi
            exact ⟨vs2, _, SqL.of h2, List.getElem?_eq_getElem (by rw [← r2.length]; exact hi)⟩
          · obtain ⟨_, vs2, r2, h2⟩ := rs2.lst hg
            rw [x.io n hn] at h2
            exact ⟨vs2, SqL.of h2, by rw [enumD_length, r2.length]; exact Nat.le_refl _⟩
          · obtain ⟨_, vs2, r2, h2⟩ := rs2.lst hg
            rw [x.io n hn] at h2
            obtain ⟨T, w, rfl, hT, rfl, hw⟩ := hy
            obtain ⟨d', h1, rfl⟩ := enumD_get 0 _ i d hd
            obtain ⟨v', h3, h4⟩ := r2.get h1
            have := hw _ (SqL.of h2)
            rw [h3] at this; cases this
            rw [Nat.zero_add]
            exact pair_ok rs2 hT h4
      · cases e2
    | _ => cases e2

/-! ### while -/
def loopW (t : MT) (mb : MS) : Nat → Env → Store → Res (Fl × Env)
  | 0, _, _ => .bad
  | n + 1, env, S => (t env S).bind fun c S1 => if c = true then (mb env S1).bind fun r S2 => match r with
      | (.nx, env2) => loopW t mb n env2 S2
      | (.ct, env2) => loopW t mb n env2 S2
      | (.bk, env2) => .ok (.nx, env2) S2
      | (.rt v, env2) => .ok (.rt v, env2) S2
    else .ok (.nx, env) S1
def mWhile (fuel : Nat) (t : MT) (mb : MS) : MS := fun env S => loopW t mb fuel env S
theorem rs_while {c : Expr} {mt : MT} {fuel : Nat} (hp : PassesOwn (model X.prog X.w) X.A X.env X.xe) (hc : PT X c (liT X.K CA mt)) (hb : PSs X body (liS X.K CA mb)) : PS X (.While c body [] pos) (liS X.K CA (mWhile fuel mt mb)) :=
  ps_imp (ps_while hp hc hb) fun Dn σ H ⟨ι, S, env, fl, env', S', rs, re, e0, q⟩ => by
    refine ⟨fun m σ2 H2 => ∃ (ι2 : Nat → Addr) (S2 : Store) (env2 : Env), Ext X.K ι S.length H ι2 S2.length H2 ∧ RS X.K CA ι2 S2 H2 ∧ RE X.K ι2 S2.length H2 env2 σ2 ∧ loopW mt mb m env2 S2 = .ok (fl, env') S', ⟨fuel, ι, S, env, Ext.refl, rs, re, e0⟩, ?_⟩
    rintro m σ2 H2 ⟨ι2, S2, env2, x2, rs2, re2, e3⟩
    cases m with
    | zero => cases e3
    | succ n =>
      obtain ⟨c1, S3, e4, e5⟩ := Res.bind_ok e3
      refine liT_at rs2 re2 e4 fun ι3 H3 x3 rs3 re3 => ?_
      cases c1 with
      | true =>
        rw [if_pos rfl] at e5 ⊢
        obtain ⟨⟨fl4, env4⟩, S4, e6, e7⟩ := Res.bind_ok e5
        have x23 := x2.trans x3
        refine ⟨fun σ5 H5 => ∃ (ι5 : Nat → Addr) (S5 : Store) (env5 : Env), Ext X.K ι S.length H ι5 S5.length H5 ∧ RS X.K CA ι5 S5 H5 ∧ RE X.K ι5 S5.length H5 env5 σ5 ∧ loopW mt mb n env5 S5 = .ok (fl, env') S', fun σ5 H5 h => ⟨n, Nat.lt_succ_self _, h⟩, ?_⟩
        refine ⟨ι3, S3, env2, fl4, env4, S4, rs3, re3, e6, ?_⟩
        cases fl4 with
        | nx => exact fun ι5 σ5 H5 x5 rs5 re5 => ⟨ι5, S4, env4, x23.trans x5, rs5, re5, e7⟩
        | ct => exact fun ι5 σ5 H5 x5 rs5 re5 => ⟨ι5, S4, env4, x23.trans x5, rs5, re5, e7⟩
        | bk =>
          cases e7
          exact fun ι5 σ5 H5 x5 rs5 re5 => q ι5 σ5 H5 (x23.trans x5) rs5 re5
        | rt v =>
          cases e7
          exact fun ι5 v5 H5 x5 rs5 re5 => q ι5 v5 H5 (x23.trans x5) rs5 re5
      | false =>
        rw [if_neg Bool.false_ne_true] at e5 ⊢
        cases e5
        exact q ι3 σ2 H3 (x2.trans x3) rs3 re3

/-! ### comprehensions -/
def wipeE (env : Env) : List Nat → Env
  | [] => env
  | v :: vs => (wipeE env vs).set v none
theorem re_wipe {ι : Nat → Addr} {N : Nat} {H : Hp} {env : Env} {σ : St} (h : RE K ι N H env σ) : ∀ vs, RE K ι N H (wipeE env vs) (wipe σ vs)
  | [] => h
  | v :: vs => by
    have ih := re_wipe h vs
    unfold wipeE wipe
    refine ⟨by rw [List.length_set, List.length_set]; exact ih.len, fun i d e => ?_⟩
    by_cases hi : v = i
    · subst hi
      by_cases hl : v < (wipeE env vs).length
      · rw [List.getElem?_set_self hl] at e; cases e
      · rw [List.getElem?_eq_none (by simpa using hl)] at e; cases e
    · rw [List.getElem?_set_ne hi] at e
      rw [List.getElem?_set_ne hi]
      exact ih.get i d e
theorem wipe_wipe {σ : St} : ∀ {vs : List Nat}, wipe (wipe σ vs) vs = wipe σ vs := by
  intro vs
  have key : ∀ (us ws : List Nat), (∀ i ∈ us, i ∈ ws) → wipe (wipe σ us) ws = wipe σ ws := by
    intro us
    induction us with
    | nil => intro ws _; rfl
    | cons u us ih =>
      intro ws h
      show wipe ((wipe σ us).set u none) ws = _
      rw [wipe_set (h u List.mem_cons_self), ih ws fun i hi => h i (List.mem_cons_of_mem _ hi)]
  exact key vs vs fun _ h => h
open Classical in
noncomputable def loopC (vs : List Nat) (t : Tg) (cond : MT) (elt : ME) (g : Guard) (env : Env) : List D → List D → Store → Res (List D)
  | [], acc, S => if gok g S then .ok acc S else .bad
  | d :: ds, acc, S => if gok g S then (match Tg.asg t d (wipeE env vs) with
    | none => .bad
    | some env1 => (cond env1 S).bind fun b S2 => if b = true then ((elt env1 S2).bind fun y S3 => if acc.length < 16777216 then loopC vs t cond elt g env ds (acc ++ [y]) S3 else .bad)
      else loopC vs t cond elt g env ds acc S2) else .bad
noncomputable def mLc (vs : List Nat) (mi : MI) (t : Tg) (cond : MT) (elt : ME) : MA := fun env S => (mi env S).bind fun r S1 => loopC vs t cond elt r.2 env r.1 [] S1
/-- an untracked new thing is written over -/
theorem ext_over {ι ι' : Nat → Addr} {N N' : Nat} {H H1 : Hp} {p : Addr} {u' w : HO} (hp : H p = none) (x : Ext K ι N H ι' N' H1) (hP : H1 p = some u') (hn : ∀ n, n < N' → ι' n ≠ p) (k1 : ∀ xs, u' ≠ .tup xs) (k2 : ∀ ob v, u' ≠ .frz ob v) :
    Ext K ι N H ι' N' (upd H1 p w) ∧ Wk K ι' N' H1 ι' N' (upd H1 p w) := by
  obtain ⟨t1, t2⟩ := ext_out (K := K) (ι := ι') (N := N') (w := w) hP hn k1 k2
  refine ⟨⟨x.le, x.io, fun a o h hn' => ?_, fun a xs h => t1 a xs (x.tp a xs h), fun a xs h => t2 a xs (x.rp a xs h), x.nw, fun a o h => ?_⟩, ⟨Nat.le_refl _, fun _ _ => rfl, t1, t2⟩⟩
  · rw [upd_ne (ne_of_none h hp)]
    exact x.fr a o h hn'
  · rw [upd_ne (ne_of_none h hp)]
    exact x.kp a o h
theorem RE.monoW {ι ι' : Nat → Addr} {N N' : Nat} {H H' : Hp} {env : Env} {σ : St} (x : Wk K ι N H ι' N' H') (h : RE K ι N H env σ) : RE K ι' N' H' env σ :=
  ⟨h.len, fun i d e => let ⟨v, a, b⟩ := h.get i d e; ⟨v, a, b.monoW x⟩⟩
theorem ne_step {ι ι' : Nat → Addr} {N N' : Nat} {H H' : Hp} {p : Addr} {u : HO} (x : Ext K ι N H ι' N' H') (hP : H p = some u) (hn : ∀ n, n < N → ι n ≠ p) : ∀ n, n < N' → ι' n ≠ p := fun n h e => by
  by_cases hN : n < N
  · exact hn n hN ((x.io n hN).symm.trans e)
  · have := x.nw n (by omega) h
    rw [e, hP] at this; cases this
theorem tLc_of {vs : List Nat} {cond : MT} {elt : ME} (hg : TGok X.K t g) (hsl : ∀ i ∈ Tg.slots t, i ∈ vs) {σ : St} {H : Hp} {Q : VK} (h : liL X.K CA (mLc vs mi t cond elt) σ H Q) :
    tLc (liI X.K CA mi) g (liT X.K CA cond) (liE X.K CA elt) vs σ H Q := by
  obtain ⟨ι, S, env, ds, S', rs, re, e0, q⟩ := h
  obtain ⟨⟨l, gd⟩, S1, e1, e2⟩ := Res.bind_ok e0
  refine ⟨ι, S, env, l, gd, S1, rs, re, e1, fun ι1 J H1 x1 rs1 wk => fun Dd hD => ?_⟩
  have y0 : Ext X.K ι1 S1.length H1 ι1 S1.length (upd H1 Dd (.lst [])) := ext_new hD
  refine ⟨fun i m H2 => m = l.length - i ∧ i ≤ l.length ∧ ∃ (ι2 : Nat → Addr) (S2 : Store) (acc : List D) (ws : List V), Ext X.K ι1 S1.length H1 ι2 S2.length H2 ∧ RS X.K CA ι2 S2 H2 ∧ VRs X.K ι2 S2.length H2 acc ws ∧ H2 Dd = some (.lst ws) ∧ (∀ n, n < S2.length → ι2 n ≠ Dd) ∧ loopC vs t cond elt gd env (l.drop i) acc S2 = .ok ds S',
    ⟨_, rfl, Nat.zero_le _, ι1, S1, [], [], y0, rs1.new hD, .nil, upd_same, fun n hn => rs1.fresh hD hn, e2⟩, ?_⟩
  rintro i m H2 ⟨rfl, hi2, ι2, S2, acc, ws, x2, rs2, r2, hD2, hn2, e3⟩
  by_cases hlt : i < l.length
  · have hd : l.drop i = l[i] :: l.drop (i + 1) := List.drop_eq_getElem_cons hlt
    rw [hd] at e3
    unfold loopC at e3
    split at e3
    case isFalse => cases e3
    rename_i hgk
    split at e3
    case h_1 => cases e3
    rename_i env3 e4
    obtain ⟨b, S3, e5, e6⟩ := Res.bind_ok e3
    refine .inr ⟨wk.goes i ι2 S2 H2 hlt x2 rs2 hgk, fun H5 => ∃ (ι5 : Nat → Addr) (S5 : Store) (acc : List D) (ws : List V), Ext X.K ι1 S1.length H1 ι5 S5.length H5 ∧ RS X.K CA ι5 S5 H5 ∧ VRs X.K ι5 S5.length H5 acc ws ∧ H5 Dd = some (.lst ws) ∧ (∀ n, n < S5.length → ι5 n ≠ Dd) ∧ loopC vs t cond elt gd env (l.drop (i + 1)) acc S5 = .ok ds S',
      fun H5 hN => ⟨l.length - (i + 1), by omega, rfl, hlt, hN⟩, fun y H3 hy => ?_⟩
    obtain ⟨w1, w2, w3⟩ := wk.yields i l[i] ι2 S2 H2 y H3 (List.getElem?_eq_getElem hlt) x2 rs2 hgk hy
    have x3 := x2.trans w1
    have hD3 := w1.fr _ _ hD2 hn2
    have re2 := re_wipe (re.mono (x1.trans x3)) vs
    refine hg.ok w2 re2 w3 e4 fun σ3 re3 hw => ⟨by rw [hw vs hsl, wipe_wipe], ?_⟩
    refine liT_at w2 re3 e5 fun ι4 H4 x4 rs4 re4 => ?_
    have x34 := x3.trans x4
    have hD4 := x4.fr _ _ hD3 hn2
    have hn4 := ne_step x4 hD3 hn2
    cases b with
    | false =>
      rw [if_neg Bool.false_ne_true] at e6 ⊢
      exact ⟨ι4, S3, acc, ws, x34, rs4, (r2.mono w1).mono x4, hD4, hn4, e6⟩
    | true =>
      rw [if_pos rfl] at e6 ⊢
      obtain ⟨y5, S5, e7, e8⟩ := Res.bind_ok e6
      split at e8
      case isFalse => cases e8
      rename_i hlen
      refine liE_at rs4 re4 e7 fun ι5 v5 H5 x5 rs5 re5 v5 => ?_
      have hD5 := x5.fr _ _ hD4 hn4
      have hn5 := ne_step x5 hD4 hn4
      obtain ⟨z1, z2⟩ := ext_over (K := X.K) (w := .lst (ws ++ [_])) hD (x34.trans x5) hD5 hn5 (by intro _ z; cases z) (by intro _ _ z; cases z)
      refine ⟨ws, hD5, by rw [← r2.length, sizeLine_eq]; exact hlen, ι5, S5, acc ++ [y5], ws ++ [_], z1, rs5.out hn5 z2, ?_, upd_same, hn5, e8⟩
      exact ((((r2.mono w1).mono x4).mono x5).append (.one v5)).monoW z2
  · have hd : l.drop i = [] := List.drop_eq_nil_of_le (by omega)
    rw [hd] at e3
    unfold loopC at e3
    split at e3
    case isFalse => cases e3
    rename_i hgk
    cases e3
    have hi3 : i = l.length := by omega
    rw [hi3]
    exact .inl ⟨wk.stops ι2 _ H2 x2 rs2 hgk, q ι2 Dd ws H2 (x1.trans x2) rs2 r2 hD2 hn2 (x1.none hD)⟩
theorem obj_last {ι : Nat → Addr} {n : Nat} {p : Addr} {H : Hp} : VR K (put ι n p) (n + 1) H (.obj n) (.ref p) := by
  have h := VR.obj (K := K) (ι := put ι n p) (N := n + 1) (H := H) n (Nat.lt_succ_self _)
  rwa [put_same] at h
def mYes : MT := fun _ S => .ok true S
theorem rts_nil {X : Cx} : PTs X [] (liT X.K CA mYes) := ⟨fun pins s σ H Q I hq => pts_nil.run pins s σ H Q I (by
  obtain ⟨ι, S, env, b, S', rs, re, e, q⟩ := hq
  cases e
  exact q ι H Ext.refl rs)⟩
theorem rts_one {X : Cx} {c : Expr} {m : MT} (h : PT X c (liT X.K CA m)) : PTs X [c] (liT X.K CA m) := pts_one h
section
variable {elt : Expr} {ifs : List Expr} {scope : Scope} {own : List (Str × Nat)} {cond : MT} {melt : ME}
theorem rl_lc (hc : X.calm = true) (hN : X.N.Nodup) (hi : PI X tg iter (liI X.K CA mi)) (ok : BlkOk X.N X.env.scope scope own) (htg : TGok X.K t g)
    (hg : ∀ (s : Shared) (H : Hp) (C : Addr) (cl : List (Str × Addr)) (fp : List Addr), PG (X.blk s H scope (compEnvC scope cl C X.env) fp) tg g) (hsl : ∀ i ∈ Tg.slots t, i ∈ own.map (·.2))
    (ht : ∀ (s : Shared) (H : Hp) (C : Addr) (cl : List (Str × Addr)) (fp : List Addr), PTs (X.blk s H scope (compEnvC scope cl C X.env) fp) ifs (liT X.K CA cond))
    (he : ∀ (s : Shared) (H : Hp) (C : Addr) (cl : List (Str × Addr)) (fp : List Addr), PE (X.blk s H scope (compEnvC scope cl C X.env) fp) elt (liE X.K CA melt)) (hs : ∀ x, foldedSetIterable iter X.env x = pure x := by intro _; rfl) :
    PE X (.ListComp elt [⟨tg, iter, ifs, 0⟩] scope pos) (liL X.K CA (mLc (own.map (·.2)) mi t cond melt)) :=
  pe_imp (pe_lc hc hN hi ok hg ht he hs) fun σ H Q h => tLc_of htg hsl h
theorem liL_of_alloc {m : MA} {σ : St} {H : Hp} {Q : VK} (h : liE X.K CA (mAlloc m) σ H Q) : liL X.K CA m σ H Q := by
  obtain ⟨ι, S, env, d, S', rs, re, e0, q⟩ := h
  obtain ⟨xs, S1, e1, e2⟩ := Res.bind_ok e0
  cases e2
  refine liL_at rs re e1 fun ι1 a vs H1 x1 rs1 re1 v1 hA hn h0 => ?_
  have hl : (S1 ++ [O.lst xs]).length = S1.length + 1 := by simp
  refine q (put ι1 S1.length a) (.ref a) H1 (by rw [hl]; exact ext_join x1 h0 ⟨_, hA⟩) (rs1.join hn ⟨vs, v1, hA⟩) ?_
  rw [hl]
  have := VR.obj (K := X.K) (ι := put ι1 S1.length a) (N := S1.length + 1) (H := H1) S1.length (by omega)
  rwa [put_same] at this
theorem liE_of_set {i : Nat} {Dn : Ends} {σ : St} {H : Hp} (h : liS X.K CA (mSet i ma) Dn σ H) : liE X.K CA ma σ H (fun x H1 => gName i x σ H1 Dn.nx) := by
  obtain ⟨ι, S, env, fl, env', S', rs, re, e0, q⟩ := h
  obtain ⟨x, S1, e1, e2⟩ := Res.bind_ok e0
  cases e2
  exact liE_at rs re e1 fun ι1 v H1 x1 rs1 re1 v1 => q ι1 _ H1 x1 rs1 (re1.set i v1)
/-- name = [..] -/
theorem rs_setLc {i : Nat} {y : Str} {py spos : Pos} (hc : X.calm = true) (hN : X.N.Nodup) (hy : X.N[i]? = some y) (hyl : X.env.scope.names.lookup y = some .local)
    (hsw : swapsWith (.ListComp elt [⟨tg, iter, ifs, 0⟩] scope pos) (some (.Name y py)) spos.line X.env = pure true) (hi : PI X tg iter (liI X.K CA mi)) (ok : BlkOk X.N X.env.scope scope own) (htg : TGok X.K t g)
    (hg : ∀ (s : Shared) (H : Hp) (C : Addr) (cl : List (Str × Addr)) (fp : List Addr), PG (X.blk s H scope (compEnvC scope cl C X.env) fp) tg g) (hsl : ∀ i ∈ Tg.slots t, i ∈ own.map (·.2))
    (ht : ∀ (s : Shared) (H : Hp) (C : Addr) (cl : List (Str × Addr)) (fp : List Addr), PTs (X.blk s H scope (compEnvC scope cl C X.env) fp) ifs (liT X.K CA cond))
    (he : ∀ (s : Shared) (H : Hp) (C : Addr) (cl : List (Str × Addr)) (fp : List Addr), PE (X.blk s H scope (compEnvC scope cl C X.env) fp) elt (liE X.K CA melt)) (hs : ∀ x, foldedSetIterable iter X.env x = pure x := by intro _; rfl) :
    PS X (.Assign [.Name y py] (.ListComp elt [⟨tg, iter, ifs, 0⟩] scope pos) spos) (liS X.K CA (mSet i (mAlloc (mLc (own.map (·.2)) mi t cond melt)))) :=
  ps_imp (ps_setLc hc hN hy hyl hsw hi ok hg ht he hs) fun Dn σ H h => tLc_of htg hsl (liL_of_alloc (liE_of_set h))
/-! dicts -/
open Classical in
noncomputable def loopDc (vs : List Nat) (t : Tg) (cond : MT) (ek ev : ME) (g : Guard) (env : Env) : List D → List (Key × D) → Store → Res (List (Key × D))
  | [], acc, S => if gok g S then .ok acc S else .bad
  | d :: ds, acc, S => if gok g S then (match Tg.asg t d (wipeE env vs) with
    | none => .bad
    | some env1 => (cond env1 S).bind fun b S2 => if b = true then ((ek env1 S2).bind fun k S3 => (ev env1 S3).bind fun y S4 => match keyOf k with
        | some kk => if acc.length < 16777216 then loopDc vs t cond ek ev g env ds (putKD acc kk y) S4 else .bad
        | none => .bad)
      else loopDc vs t cond ek ev g env ds acc S2) else .bad
noncomputable def mDc (vs : List Nat) (mi : MI) (t : Tg) (cond : MT) (ek ev : ME) : ME := fun env S => (mi env S).bind fun r S1 => (loopDc vs t cond ek ev r.2 env r.1 [] S1).bind fun kvs S2 => .ok (.obj S2.length) (S2 ++ [.dct kvs])
theorem tDc_of {vs : List Nat} {cond : MT} {ek ev : ME} (hg : TGok X.K t g) (hsl : ∀ i ∈ Tg.slots t, i ∈ vs) {σ : St} {H : Hp} {Q : VK} (h : liE X.K CA (mDc vs mi t cond ek ev) σ H Q) :
    tDc (liI X.K CA mi) g (liT X.K CA cond) (liE X.K CA ek) (liE X.K CA ev) vs σ H Q := by
  obtain ⟨ι, S, env, d, S', rs, re, e0, q⟩ := h
  obtain ⟨⟨l, gd⟩, S1, e1, e2'⟩ := Res.bind_ok e0
  obtain ⟨kvs, S9, e2, e9⟩ := Res.bind_ok e2'
  cases e9
  refine ⟨ι, S, env, l, gd, S1, rs, re, e1, fun ι1 J H1 x1 rs1 wk => fun Dd hD => ?_⟩
  have y0 : Ext X.K ι1 S1.length H1 ι1 S1.length (upd H1 Dd (.dK [])) := ext_new hD
  refine ⟨fun i m H2 => m = l.length - i ∧ i ≤ l.length ∧ ∃ (ι2 : Nat → Addr) (S2 : Store) (acc : List (Key × D)) (ws : List (Key × V)), Ext X.K ι1 S1.length H1 ι2 S2.length H2 ∧ RS X.K CA ι2 S2 H2 ∧ PR X.K ι2 S2.length H2 acc ws ∧ H2 Dd = some (.dK ws) ∧ (∀ n, n < S2.length → ι2 n ≠ Dd) ∧ loopDc vs t cond ek ev gd env (l.drop i) acc S2 = .ok kvs S9,
    ⟨_, rfl, Nat.zero_le _, ι1, S1, [], [], y0, rs1.new hD, .nil, upd_same, fun n hn => rs1.fresh hD hn, e2⟩, ?_⟩
  rintro i m H2 ⟨rfl, hi2, ι2, S2, acc, ws, x2, rs2, r2, hD2, hn2, e3⟩
  by_cases hlt : i < l.length
  · have hd : l.drop i = l[i] :: l.drop (i + 1) := List.drop_eq_getElem_cons hlt
    rw [hd] at e3
    unfold loopDc at e3
    split at e3
    case isFalse => cases e3
    rename_i hgk
    split at e3
    case h_1 => cases e3
    rename_i env3 e4
    obtain ⟨b, S3, e5, e6⟩ := Res.bind_ok e3
    refine .inr ⟨wk.goes i ι2 S2 H2 hlt x2 rs2 hgk, fun H5 => ∃ (ι5 : Nat → Addr) (S5 : Store) (acc : List (Key × D)) (ws : List (Key × V)), Ext X.K ι1 S1.length H1 ι5 S5.length H5 ∧ RS X.K CA ι5 S5 H5 ∧ PR X.K ι5 S5.length H5 acc ws ∧ H5 Dd = some (.dK ws) ∧ (∀ n, n < S5.length → ι5 n ≠ Dd) ∧ loopDc vs t cond ek ev gd env (l.drop (i + 1)) acc S5 = .ok kvs S9,
      fun H5 hN => ⟨l.length - (i + 1), by omega, rfl, hlt, hN⟩, fun y H3 hy => ?_⟩
    obtain ⟨w1, w2, w3⟩ := wk.yields i l[i] ι2 S2 H2 y H3 (List.getElem?_eq_getElem hlt) x2 rs2 hgk hy
    have x3 := x2.trans w1
    have hD3 := w1.fr _ _ hD2 hn2
    have re2 := re_wipe (re.mono (x1.trans x3)) vs
    refine hg.ok w2 re2 w3 e4 fun σ3 re3 hw => ⟨by rw [hw vs hsl, wipe_wipe], ?_⟩
    refine liT_at w2 re3 e5 fun ι4 H4 x4 rs4 re4 => ?_
    have x34 := x3.trans x4
    have hD4 := x4.fr _ _ hD3 hn2
    have hn4 := ne_step x4 hD3 hn2
    cases b with
    | false =>
      rw [if_neg Bool.false_ne_true] at e6 ⊢
      exact ⟨ι4, S3, acc, ws, x34, rs4, PR.mono x4 (PR.mono w1 r2), hD4, hn4, e6⟩
    | true =>
      rw [if_pos rfl] at e6 ⊢
      obtain ⟨k5, S5, e7, e8⟩ := Res.bind_ok e6
      obtain ⟨y6, S6, e7', e8'⟩ := Res.bind_ok e8
      split at e8'
      case h_2 => cases e8'
      rename_i kk ekk
      split at e8'
      case isFalse => cases e8'
      rename_i hlen
      refine liE_at rs4 re4 e7 fun ι5 v5 H5 x5 rs5 re5 v5 => ?_
      have hD5 := x5.fr _ _ hD4 hn4
      have hn5 := ne_step x5 hD4 hn4
      refine liE_at rs5 re5 e7' fun ι6 v6 H6 x6 rs6 re6 v6' => ?_
      have hD6 := x6.fr _ _ hD5 hn5
      have hn6 := ne_step x6 hD5 hn5
      obtain ⟨z1, z2⟩ := ext_over (K := X.K) (w := .dK (putK ws kk v6)) hD ((x34.trans x5).trans x6) hD6 hn6 (by intro _ z; cases z) (by intro _ _ z; cases z)
      have rr : PR X.K ι6 S6.length H6 acc ws := PR.mono x6 (PR.mono x5 (PR.mono x4 (PR.mono w1 r2)))
      refine ⟨ws, kk, key_of_vr v5 ekk, hD6, by rw [← Paired.length r2, sizeLine_eq]; exact hlen, ι6, S6, putKD acc kk y6, putK ws kk v6, z1, rs6.out hn6 z2, ?_, upd_same, hn6, e8'⟩
      exact Paired.mapP (putK_rel v6' rr) fun _ _ z => ⟨z.1, z.2.monoW z2⟩
  · have hd : l.drop i = [] := List.drop_eq_nil_of_le (by omega)
    rw [hd] at e3
    unfold loopDc at e3
    split at e3
    case isFalse => cases e3
    rename_i hgk
    cases e3
    have hi3 : i = l.length := by omega
    rw [hi3]
    refine .inl ⟨wk.stops ι2 _ H2 x2 rs2 hgk, ?_⟩
    have hl : ∀ (S : Store), (S ++ [O.dct kvs]).length = S.length + 1 := fun S => by simp
    exact q (put ι2 _ Dd) (.ref Dd) H2 (by rw [hl]; exact ext_join (x1.trans x2) (x1.none hD) ⟨_, hD2⟩) (rs2.join hn2 ⟨ws, r2, hD2⟩) (by rw [hl]; exact obj_last)
theorem re_dc {kx vx : Expr} {ek ev : ME} (hc : X.calm = true) (hN : X.N.Nodup) (hi : PI X tg iter (liI X.K CA mi)) (ok : BlkOk X.N X.env.scope scope own) (htg : TGok X.K t g)
    (hg : ∀ (s : Shared) (H : Hp) (C : Addr) (cl : List (Str × Addr)) (fp : List Addr), PG (X.blk s H scope (compEnvC scope cl C X.env) fp) tg g) (hsl : ∀ i ∈ Tg.slots t, i ∈ own.map (·.2))
    (ht : ∀ (s : Shared) (H : Hp) (C : Addr) (cl : List (Str × Addr)) (fp : List Addr), PTs (X.blk s H scope (compEnvC scope cl C X.env) fp) ifs (liT X.K CA cond))
    (hk : ∀ (s : Shared) (H : Hp) (C : Addr) (cl : List (Str × Addr)) (fp : List Addr), PE (X.blk s H scope (compEnvC scope cl C X.env) fp) kx (liE X.K CA ek))
    (he : ∀ (s : Shared) (H : Hp) (C : Addr) (cl : List (Str × Addr)) (fp : List Addr), PE (X.blk s H scope (compEnvC scope cl C X.env) fp) vx (liE X.K CA ev)) (hs : ∀ x, foldedSetIterable iter X.env x = pure x := by intro _; rfl) :
    PE X (.DictComp kx vx [⟨tg, iter, ifs, 0⟩] scope pos) (liE X.K CA (mDc (own.map (·.2)) mi t cond ek ev)) :=
  pe_imp (pe_dc hc hN hi ok hg ht hk he hs) fun σ H Q h => tDc_of htg hsl h
/-- name = {k: v for ..} on one line, the name a local one: dc_core with the store as its use -/
theorem nd_setDc {i : Nat} {y : Str} {py spos : Pos} {kx vx : Expr} {wi : TI} {tt : TT} {tk tv : TE} (hc : X.calm = true) (hN : X.N.Nodup) (hy : X.N[i]? = some y) (hyl : X.env.scope.names.lookup y = some .local)
    (hsw : swapsWith (.DictComp kx vx [⟨tg, iter, ifs, 0⟩] scope pos) (some (.Name y py)) spos.line X.env = pure true) (hi : PI X tg iter wi) (ok : BlkOk X.N X.env.scope scope own)
    (hg : ∀ (s : Shared) (H : Hp) (C : Addr) (cl : List (Str × Addr)) (fp : List Addr), PG (X.blk s H scope (compEnvC scope cl C X.env) fp) tg g) (ht : ∀ (s : Shared) (H : Hp) (C : Addr) (cl : List (Str × Addr)) (fp : List Addr), PTs (X.blk s H scope (compEnvC scope cl C X.env) fp) ifs tt)
    (hk : ∀ (s : Shared) (H : Hp) (C : Addr) (cl : List (Str × Addr)) (fp : List Addr), PE (X.blk s H scope (compEnvC scope cl C X.env) fp) kx tk)
    (he : ∀ (s : Shared) (H : Hp) (C : Addr) (cl : List (Str × Addr)) (fp : List Addr), PE (X.blk s H scope (compEnvC scope cl C X.env) fp) vx tv) (hs : ∀ x, foldedSetIterable iter X.env x = pure x := by intro _; rfl) :
    PS X (.Assign [.Name y py] (.DictComp kx vx [⟨tg, iter, ifs, 0⟩] scope pos) spos) (tAsg (tDc wi g tt tk tv (own.map (·.2))) (gName i)) := by
  refine ⟨fun pins s σ H Dn I h => ?_⟩
  rw [exec_Assign_Name_used _ _ _ _ hsw]
  refine wpAny_bind (wpAny_standAt (wpAny_bind ?_))
  show wpAny _ X.A (do let _ ← comprehension (.DictComp kx vx [⟨tg, iter, ifs, 0⟩] scope pos) scope X.env (firstIterPos [⟨tg, iter, ifs, 0⟩] pos) newDict false (eval iter X.env) (some (assign (.Name y py) X.env))) _ _ s
  have h1 : tDc wi g tt tk tv (own.map (·.2)) σ H (fun x H1 => gName i x σ H1 Dn.nx) := h
  refine wpAny_bind (thn (dc_core (Qf := fun _ s' => SP X pins Dn .next s') hc hN I hi ok hg ht hk he hs h1 fun L C s' m H' I' q hn ff => ?_) fun _ s' hq => wpAny_pure (wpAny_pure hq))
  show wpAny _ _ (assign (.Name y py) X.env (.ref L)) _ _ _
  refine wpAny_assign_Name (store_ok2 (v := V.ref L) I' hN hy (.inl hyl) rfl (fun s2 I2 ⟨a, sb, ha⟩ => ?_) (.inr hyl))
  obtain ⟨f0, f1, f2, f3, f4, f5⟩ := ff
  have haC : C ≠ a := by
    rcases ha with z | z
    · rw [z]; exact f1
    · exact fun e => f4 y a z e.symm
  refine ⟨m, hn.sameBut sb haC, fun h3 sb3 => ?_⟩
  exact ⟨_, H', I2.turned (t' := s2.toks) (fun b o hb e => (sb3.2 b hb).trans e) f0 f1 f3 f4 f5, q⟩
theorem swD_true {kx vx : Expr} {gs : List Comprehension} {py : Pos} {y : Str} {l : Nat} {env : PySem.Env} (hk : env.scope.kind = .function) (hy : env.scope.names.lookup y = some .local) (hl : (py.line == pos.line) = true)
    (ha : (scope.names.any fun (n, k) => n == y && (k == .local || k == .cell)) = false) : swapsWith (.DictComp kx vx gs scope pos) (some (.Name y py)) l env = pure true := by
  have ky : env.kindOf y = some .local := hy
  have hb : env.blockKind = .function := by unfold Env.blockKind; rw [hk]; rfl
  unfold swapsWith
  simp only [hb, ky, ha, Expr.pos, hl]
  rfl
theorem rs_setDc {i : Nat} {y : Str} {py spos : Pos} {kx vx : Expr} {ek ev : ME} (hc : X.calm = true) (hN : X.N.Nodup) (hy : X.N[i]? = some y) (hyl : X.env.scope.names.lookup y = some .local)
    (hsw : swapsWith (.DictComp kx vx [⟨tg, iter, ifs, 0⟩] scope pos) (some (.Name y py)) spos.line X.env = pure true) (hi : PI X tg iter (liI X.K CA mi)) (ok : BlkOk X.N X.env.scope scope own) (htg : TGok X.K t g)
    (hg : ∀ (s : Shared) (H : Hp) (C : Addr) (cl : List (Str × Addr)) (fp : List Addr), PG (X.blk s H scope (compEnvC scope cl C X.env) fp) tg g) (hsl : ∀ i ∈ Tg.slots t, i ∈ own.map (·.2))
    (ht : ∀ (s : Shared) (H : Hp) (C : Addr) (cl : List (Str × Addr)) (fp : List Addr), PTs (X.blk s H scope (compEnvC scope cl C X.env) fp) ifs (liT X.K CA cond))
    (hk : ∀ (s : Shared) (H : Hp) (C : Addr) (cl : List (Str × Addr)) (fp : List Addr), PE (X.blk s H scope (compEnvC scope cl C X.env) fp) kx (liE X.K CA ek))
    (he : ∀ (s : Shared) (H : Hp) (C : Addr) (cl : List (Str × Addr)) (fp : List Addr), PE (X.blk s H scope (compEnvC scope cl C X.env) fp) vx (liE X.K CA ev)) (hs : ∀ x, foldedSetIterable iter X.env x = pure x := by intro _; rfl) :
    PS X (.Assign [.Name y py] (.DictComp kx vx [⟨tg, iter, ifs, 0⟩] scope pos) spos) (liS X.K CA (mSet i (mDc (own.map (·.2)) mi t cond ek ev))) :=
  ps_imp (nd_setDc hc hN hy hyl hsw hi ok hg ht hk he hs) fun Dn σ H h => tDc_of htg hsl (liE_of_set h)
end
end
end Nd

/-! NdG: small glue for printed derivations. -/
namespace Nd
open PySem L2
def visC (sc : Scope) (x : Str) : Bool := match sc.names.lookup x with
  | some .local => true
  | some .cell => true
  | some .free => true
  | _ => false
def locC (sc : Scope) (x : Str) : Bool := match sc.names.lookup x with
  | some .local => true
  | some .cell => true
  | _ => false
def isK (sc : Scope) (x : Str) (k : NameKind) : Bool := sc.names.lookup x == some k
theorem vis_of {sc : Scope} {x : Str} (h : visC sc x = true) : Vis sc x := by
  unfold visC at h
  unfold Vis
  split at h
  · rename_i e; exact .inl e
  · rename_i e; exact .inr (.inl e)
  · rename_i e; exact .inr (.inr e)
  · cases h
theorem loc_of {sc : Scope} {x : Str} (h : locC sc x = true) : L2.Loc sc x := by
  unfold locC at h
  unfold L2.Loc
  split at h
  · rename_i e; exact .inl e
  · rename_i e; exact .inr e
  · cases h
section
variable {X : Cx} {sc : Scope} {x : Str}
theorem visS (hsc : X.env.scope = sc) (h : visC sc x = true) : Vis X.env.scope x := by rw [hsc]; exact vis_of h
theorem locS (hsc : X.env.scope = sc) (h : locC sc x = true) : L2.Loc X.env.scope x := by rw [hsc]; exact loc_of h
theorem glS (hsc : X.env.scope = sc) (h : isK sc x .globalImplicit = true) : Gl X x := by
  show X.env.scope.names.lookup x = _
  rw [hsc]
  exact beq_iff_eq.mp h
variable {s : Shared} {H : Hp} {scope : Scope} {C : Addr} {cl : List (Str × Addr)} {fp : List Addr}
theorem scB : (X.blk s H scope (compEnvC scope cl C X.env) fp).env.scope = relS scope X.env.scope := rfl
theorem visB (hsc : X.env.scope = sc) (h : visC (relS scope sc) x = true) : Vis (X.blk s H scope (compEnvC scope cl C X.env) fp).env.scope x := by
  rw [scB, hsc]; exact vis_of h
theorem locB (hsc : X.env.scope = sc) (h : locC (relS scope sc) x = true) : L2.Loc (X.blk s H scope (compEnvC scope cl C X.env) fp).env.scope x := by
  rw [scB, hsc]; exact loc_of h
theorem fnB (hsc : X.env.scope = sc) (h : isK (relS scope sc) x .local = true) : (X.blk s H scope (compEnvC scope cl C X.env) fp).fn x = true ∨ (X.blk s H scope (compEnvC scope cl C X.env) fp).env.scope.names.lookup x = some .local := by
  refine .inr ?_
  rw [scB, hsc]
  exact beq_iff_eq.mp h
theorem glB (hsc : X.env.scope = sc) (h : isK (relS scope sc) x .globalImplicit = true) : Gl (X.blk s H scope (compEnvC scope cl C X.env) fp) x := by
  show (X.blk s H scope (compEnvC scope cl C X.env) fp).env.scope.names.lookup x = _
  rw [scB, hsc]
  exact beq_iff_eq.mp h
end
theorem mNil_n (env : Nd.Env) (S : Store) (ds : List D) (S' : Store) (h : mNil env S = .ok ds S') : ds.length = 0 := by cases h; rfl
theorem mCons_n {m : ME} {r : MA} {k : Nat} (h : ∀ env S ds S', r env S = .ok ds S' → ds.length = k) (env : Nd.Env) (S : Store) (ds : List D) (S' : Store) (q : mCons m r env S = .ok ds S') : ds.length = k + 1 := by
  obtain ⟨x, S1, e1, q1⟩ := Res.bind_ok q
  obtain ⟨xs, S2, e2, q2⟩ := Res.bind_ok q1
  cases q2
  rw [List.length_cons, h _ _ _ _ e2]
theorem bad_ok {P : Program} {w : World} {K : PySem.W.Frag} {mg : Str → Option Value} {base : Heap} {CA : Nat → Addr} {k np : Nat} {f : Addr} {fd : FuncData} {ps : List Str} {fn : Fn} (h : fn = fun _ _ => .bad) : FnOk P w K mg base CX0 k f fd ps (spF K CA np fn) := by
  subst h
  exact ⟨fun vs H Q E ⟨_, _, _, _, _, _, _, _, z, _⟩ => (by cases z), fun _ _ _ _ _ _ _ _ _ _ _ _ _ ⟨_, _, _, _, _, _, _, _, z, _⟩ => (by cases z)⟩
end Nd

/-! NdM: the computations, one step each, for simp: what comes later is a name with its code, not looked at. -/
namespace Nd
open PySem L2
theorem ofString_inj {a b : String} : (Str.ofString a = Str.ofString b) = (a = b) := by
  apply propext
  constructor
  · intro h
    rw [Str.ofString_eq_toList, Str.ofString_eq_toList] at h
    have h2 : a.toList.map Char.toNat = b.toList.map Char.toNat := by
      injection h with h
      exact List.toArray_inj h
    have h3 : a.toList = b.toList := by
      generalize a.toList = l at h2
      generalize b.toList = m at h2
      clear h
      induction l generalizing m with
      | nil => cases m with
        | nil => rfl
        | cons _ _ => simp at h2
      | cons c cs ih => cases m with
        | nil => simp at h2
        | cons e es =>
          simp only [List.map_cons, List.cons.injEq] at h2
          rw [ih _ h2.2, Char.ext (UInt32.toNat_inj.mp h2.1)]
    exact String.toList_inj.mp h3
  · rintro rfl; rfl
theorem e_beqS {a b : String} : (Str.ofString a == Str.ofString b) = decide (a = b) := by
  by_cases h : a = b
  · subst h; simp
  · have : ¬ Str.ofString a = Str.ofString b := by rw [ofString_inj]; exact h
    simp [h, this]
def kOpt (S : Store) : Option D → Res D
  | some d => .ok d S
  | none => .bad
def kOptB (S : Store) : Option Bool → Res Bool
  | some b => .ok b S
  | none => .bad
def kOptBD (neg : Bool) (S : Store) : Option Bool → Res D
  | some k => .ok (.bl (if neg then !k else k)) S
  | none => .bad
def kVar (S : Store) : Option (Option D) → Res D
  | some (some d) => .ok d S
  | _ => .bad
def kOp2b (o : O2) (x : D) : D → Store → Res D := fun y S => o x y S
def kOp2a (o : O2) (b : ME) (env : Env) : D → Store → Res D := fun x S => (b env S).bind (kOp2b o x)
def kConsB (x : D) : List D → Store → Res (List D) := fun xs S => .ok (x :: xs) S
def kConsA (r : MA) (env : Env) : D → Store → Res (List D) := fun x S => (r env S).bind (kConsB x)
def kTup : List D → Store → Res D := fun xs S => if xs.length ≤ 16777216 then .ok (.tup xs) S else .bad
def kTruth (t : D → Store → Option Bool) : D → Store → Res Bool := fun x S => kOptB S (t x S)
def kBool : D → Store → Res Bool := fun x0 S => match x0 with
  | .bl b => .ok b S
  | _ => .bad
def kNot : Bool → Store → Res Bool := fun x S => .ok (!x) S
def kAnd (u : MT) (env : Env) : Bool → Store → Res Bool
  | true, S => u env S
  | false, S => .ok false S
def kOr (u : MT) (env : Env) : Bool → Store → Res Bool
  | true, S => .ok true S
  | false, S => u env S
def kAndV (u : ME) (env : Env) : D → Store → Res D := fun x0 S => match x0 with
  | .bl true => u env S
  | .bl false => .ok (.bl false) S
  | _ => .bad
def kOrV (u : ME) (env : Env) : D → Store → Res D := fun x0 S => match x0 with
  | .bl true => .ok (.bl true) S
  | .bl false => u env S
  | _ => .bad
def kNotV : D → Store → Res D := fun x0 S => match x0 with
  | .bl b => .ok (.bl (!b)) S
  | _ => .bad
def kSeq (n : MS) : Fl × Env → Store → Res (Fl × Env) := fun x0 S1 => match x0 with
  | (.nx, env1) => n env1 S1
  | (fl, env1) => .ok (fl, env1) S1
def kSet (i : Nat) (env : Env) : D → Store → Res (Fl × Env) := fun x S1 => .ok (.nx, env.set i (some x)) S1
def kRet (env : Env) : D → Store → Res (Fl × Env) := fun x S1 => .ok (.rt x, env) S1
def kExpr (env : Env) : D → Store → Res (Fl × Env) := fun _ S1 => .ok (.nx, env) S1
def kIf (m n : MS) (env : Env) : Bool → Store → Res (Fl × Env)
  | true, S => m env S
  | false, S => n env S
def kRun : Res (Fl × Env) → Res D
  | .ok (.nx, _) S' => .ok .non S'
  | .ok (.rt d, _) S' => .ok d S'
  | .ok _ _ => .bad
  | .exc c l S' => .exc c l S'
  | .bad => .bad
def kLst : List D → Store → Res (List D) := fun xs S1 => if xs.length ≤ 16777216 then .ok xs S1 else .bad
def kAlloc : List D → Store → Res D := fun xs S1 => .ok (.obj S1.length) (S1 ++ [.lst xs])
def kInLb (neg : Bool) (x : D) : List D → Store → Res D := fun l S2 => if flatD x && l.all flatD then .ok (.bl (if neg then !(l.any fun y => eqF y x) else l.any fun y => eqF y x)) S2 else .bad
def kInLa (neg : Bool) (m : MA) (env : Env) : D → Store → Res D := fun x S1 => (m env S1).bind (kInLb neg x)
def kIxLb (l : List D) : D → Store → Res D := fun x0 S2 => match x0 with
  | .int i => kOpt S2 (atI l i)
  | _ => .bad
def kIxLa (b : ME) (env : Env) : List D → Store → Res D := fun l S1 => (b env S1).bind (kIxLb l)
def kOptL (S : Store) : Option (List D) → Res (List D)
  | some l => .ok l S
  | none => .bad
def kListOf : D → Store → Res (List D) := fun x S1 => kOptL S1 (seqD x S1)
def kSomeO : D → Store → Res (Option Int) := fun x0 S => match x0 with
  | .int i => .ok (some i) S
  | _ => .bad
def kSl3 (x : D) (lo : Option Int) : Option Int → Store → Res D := fun hi S => oSlice x lo hi S
def kSl2 (mh : MO) (env : Env) (x : D) : Option Int → Store → Res D := fun lo S => (mh env S).bind (kSl3 x lo)
def kSl1 (ml mh : MO) (env : Env) : D → Store → Res D := fun x S => (ml env S).bind (kSl2 mh env x)
def kDict (ks : List Key) : List D → Store → Res D := fun vs S1 => .ok (.obj S1.length) (S1 ++ [.dct ((ks.zip vs).foldl (fun acc kv => putKD acc kv.1 kv.2) [])])
def kFld (c : Nat) (f : Str) (S : Store) : Option O → Res D
  | some (.ins c' fs) => if c' = c then kOpt S (getA f fs) else .bad
  | _ => .bad
def kSetFc (c : Nat) (f : Str) (env : Env) (v : D) (n : Nat) (S : Store) : Option O → Res (Fl × Env)
  | some (.ins c' fs) => if c' = c ∧ fs.length < 1000 then .ok (.nx, env) (S.set n (.ins c (putA f v fs))) else .bad
  | _ => .bad
def kSetFb (c : Nat) (f : Str) (env : Env) (v : D) : D → Store → Res (Fl × Env) := fun x0 S => match x0 with
  | .obj n => kSetFc c f env v n S S[n]?
  | _ => .bad
def kSetFa (c : Nat) (f : Str) (mo : ME) (env : Env) : D → Store → Res (Fl × Env) := fun v S => (mo env S).bind (kSetFb c f env v)
def kAugFc (c : Nat) (f : Str) (g : Int → Int → Int) (env : Env) (n : Nat) (S : Store) : Option O → D → D → Res (Fl × Env)
  | some (.ins c' fs), .int i, .int j => if c' = c ∧ fs.length < 1000 then .ok (.nx, env) (S.set n (.ins c (putA f (.int (g i j)) fs))) else .bad
  | _, _, _ => .bad
def kAugFb (c : Nat) (f : Str) (g : Int → Int → Int) (env : Env) (x old : D) : D → Store → Res (Fl × Env) := fun v S2 => match x with
  | .obj n => kAugFc c f g env n S2 S2[n]? old v
  | _ => .bad
def kAugFa (c : Nat) (f : Str) (g : Int → Int → Int) (mv : ME) (env : Env) (x : D) : D → Store → Res (Fl × Env) := fun old S1 => (mv env S1).bind (kAugFb c f g env x old)
def kAugF (c : Nat) (f : Str) (g : Int → Int → Int) (mv : ME) (env : Env) : D → Store → Res (Fl × Env) := fun x S1 => (oFld c f x S1).bind (kAugFa c f g mv env x)
def kAugb (i : Nat) (g : Int → Int → Int) (env : Env) (u : Int) : D → Store → Res (Fl × Env) := fun x0 S1 => match x0 with
  | .int w => .ok (.nx, env.set i (some (.int (g u w)))) S1
  | _ => .bad
def kAug (i : Nat) (g : Int → Int → Int) (mv : ME) (env : Env) (S : Store) : Option (Option D) → Res (Fl × Env)
  | some (some (.int u)) => (mv env S).bind (kAugb i g env u)
  | _ => .bad
def kPutDd (env : Env) (v : D) (n : Nat) (S : Store) : Option O → Option Key → Res (Fl × Env)
  | some (.dct kvs), some kk => if kvs.length < 16777216 then .ok (.nx, env) (S.set n (.dct (putKD kvs kk v))) else .bad
  | _, _ => .bad
def kPutDc (env : Env) (v x : D) : D → Store → Res (Fl × Env) := fun k S3 => match x with
  | .obj n => kPutDd env v n S3 S3[n]? (keyOf k)
  | _ => .bad
def kPutDb (mk : ME) (env : Env) (v : D) : D → Store → Res (Fl × Env) := fun x S2 => (mk env S2).bind (kPutDc env v x)
def kPutDa (mo mk : ME) (env : Env) : D → Store → Res (Fl × Env) := fun v S1 => (mo env S1).bind (kPutDb mk env v)
def kAugDd (env : Env) (n : Nat) (kk : Key) (g : Int → Int → Int) (i : Int) (S : Store) : Option O → D → Res (Fl × Env)
  | some (.dct kvs'), .int j => if kvs'.length < 16777216 then .ok (.nx, env) (S.set n (.dct (putKD kvs' kk (.int (g i j))))) else .bad
  | _, _ => .bad
def kAugDc (env : Env) (n : Nat) (kk : Key) (g : Int → Int → Int) (i : Int) : D → Store → Res (Fl × Env) := fun v S3 => kAugDd env n kk g i S3 S3[n]? v
def kAugDb (env : Env) (n : Nat) (kk : Key) (g : Int → Int → Int) (mv : ME) (S : Store) : Option D → Res (Fl × Env)
  | some (.int i) => (mv env S).bind (kAugDc env n kk g i)
  | _ => .bad
def kAugDa (env : Env) (n : Nat) (g : Int → Int → Int) (mv : ME) (S : Store) : Option O → Option Key → Res (Fl × Env)
  | some (.dct kvs), some kk => kAugDb env n kk g mv S (getK kvs kk)
  | _, _ => .bad
def kAugD2 (g : Int → Int → Int) (mv : ME) (env : Env) (x : D) : D → Store → Res (Fl × Env) := fun k S2 => match x with
  | .obj n => kAugDa env n g mv S2 S2[n]? (keyOf k)
  | _ => .bad
def kAugD1 (g : Int → Int → Int) (mk mv : ME) (env : Env) : D → Store → Res (Fl × Env) := fun x S1 => (mk env S1).bind (kAugD2 g mv env x)
def kIns (c : Nat) : Option O → Option (List (Str × D))
  | some (.ins c' fs) => if c' = c then some fs else none
  | _ => none
def kMethD (fn : Fn) (x : D) : List D → Store → Res D := fun xs S => fn (x :: xs) S
def kMethC (fn : Fn) (mr : MA) (env : Env) (x : D) (S : Store) : Option D → Res D
  | none => (mr env S).bind (kMethD fn x)
  | some _ => .bad
def kMethB (m : Str) (fn : Fn) (mr : MA) (env : Env) (x : D) (S : Store) : Option (List (Str × D)) → Res D
  | some fs => kMethC fn mr env x S (getA m fs)
  | none => .bad
def kMethA (c : Nat) (m : Str) (fn : Fn) (mr : MA) (env : Env) : D → Store → Res D := fun x S => kMethB m fn mr env x S (insAt c x S)
def kPropB (fn : Fn) (x : D) (S : Store) : Option (List (Str × D)) → Res D
  | some _ => fn [x] S
  | none => .bad
def kProp (c : Nat) (fn : Fn) : D → Store → Res D := fun x S => kPropB fn x S (insAt c x S)
def kMakeB (l : Nat) : D → Store → Res D := fun x0 S2 => match x0 with
  | .non => .ok (.obj l) S2
  | _ => .bad
def kMake (c : Nat) (fn : Fn) : List D → Store → Res D := fun xs S1 => (fn (.obj S1.length :: xs) (S1 ++ [.ins c []])).bind (kMakeB S1.length)
def kBMc (o : OM) (x : D) : List D → Store → Res D := fun xs S => o x xs S
def kBMb (o : OM) (mr : MA) (env : Env) (x : D) (S : Store) : Bool → Res D
  | true => (mr env S).bind (kBMc o x)
  | false => .bad
def kBM (o : OM) (mr : MA) (env : Env) : D → Store → Res D := fun x S => kBMb o mr env x S (isLst x S)
def kAsgb (S : Store) : Option Env → Res (Fl × Env)
  | some env' => .ok (.nx, env') S
  | none => .bad
def kAsg (t : Tg) (env : Env) : D → Store → Res (Fl × Env) := fun x S1 => kAsgb S1 (Tg.asg t x env)
def kSeqIo (n : Nat) (S : Store) : Option O → Res (List D × Guard)
  | some (.lst l) => .ok (l, some (n, .lst l)) S
  | _ => .bad
def kSeqI : D → Store → Res (List D × Guard) := fun x0 S => match x0 with
  | .tup l => .ok (l, none) S
  | .ro l => .ok (l, none) S
  | .obj n => kSeqIo n S S[n]?
  | _ => .bad
def kSeqL : List D → Store → Res (List D × Guard) := fun l S1 => .ok (l, none) S1
def kRange : List D → Store → Res (List D × Guard) := fun x0 S1 => match x0 with
  | [.int j] => if -(2 ^ 62) ≤ j ∧ j < 2 ^ 62 then .ok (rangeD 0 j.toNat, none) S1 else .bad
  | [.int i, .int j] => if -(2 ^ 62) ≤ i ∧ i < 2 ^ 62 ∧ -(2 ^ 62) ≤ j ∧ j < 2 ^ 62 then .ok (rangeD i (j - i).toNat, none) S1 else .bad
  | _ => .bad
def kEnum : List D × Guard → Store → Res (List D × Guard) := fun r S1 => .ok (enumD 0 r.1, r.2) S1
noncomputable def kFor (t : Tg) (mb : MS) (env : Env) : List D × Guard → Store → Res (Fl × Env) := fun r S1 => loopS t mb r.2 r.1 env S1
noncomputable def kLoop2 (t : Tg) (mb : MS) (g : Guard) (ds : List D) : Fl × Env → Store → Res (Fl × Env) := fun x0 S2 => match x0 with
  | (.nx, env2) => loopS t mb g ds env2 S2
  | (.ct, env2) => loopS t mb g ds env2 S2
  | (.bk, env2) => .ok (.nx, env2) S2
  | (.rt v, env2) => .ok (.rt v, env2) S2
noncomputable def kLoop1 (t : Tg) (mb : MS) (g : Guard) (ds : List D) (S : Store) : Option Env → Res (Fl × Env)
  | some env1 => (mb env1 S).bind (kLoop2 t mb g ds)
  | none => .bad
noncomputable def kLc (vs : List Nat) (t : Tg) (cond : MT) (elt : ME) (env : Env) : List D × Guard → Store → Res (List D) := fun r S1 => loopC vs t cond elt r.2 env r.1 [] S1
noncomputable def kLc3 (vs : List Nat) (t : Tg) (cond : MT) (elt : ME) (g : Guard) (env : Env) (ds acc : List D) : D → Store → Res (List D) := fun y S3 => if acc.length < 16777216 then loopC vs t cond elt g env ds (acc ++ [y]) S3 else .bad
noncomputable def kLc2 (vs : List Nat) (t : Tg) (cond : MT) (elt : ME) (g : Guard) (env env1 : Env) (ds acc : List D) : Bool → Store → Res (List D)
  | true, S => (elt env1 S).bind (kLc3 vs t cond elt g env ds acc)
  | false, S => loopC vs t cond elt g env ds acc S
noncomputable def kLc1 (vs : List Nat) (t : Tg) (cond : MT) (elt : ME) (g : Guard) (env : Env) (ds acc : List D) (S : Store) : Option Env → Res (List D)
  | some env1 => (cond env1 S).bind (kLc2 vs t cond elt g env env1 ds acc)
  | none => .bad
noncomputable def kDc9 : List (Key × D) → Store → Res D := fun kvs S => .ok (.obj S.length) (S ++ [.dct kvs])
section
variable {env : Env} {S S' : Store} {a b : ME} {r mr : MA} {t u : MT} {m n : MS} {x y v old : D} {xs l : List D} {bb : Bool} {i j : Int} {k c p q : Nat} {o : O2} {fl : Fl} {f : Str} {fn : Fn} {fs : List (Str × D)} {gg : Int → Int → Int} {mi : MI} {tg : Tg} {g : Guard} {kk : Key} {kvs : List (Key × D)} {s1 s2 : Str}
theorem e_C : mC v env S = .ok v S := id rfl
theorem e_Var : mVar k env S = kVar S env[k]? := by
  unfold mVar kVar
  rcases env[k]? with _ | (_ | d) <;> rfl
theorem e_kVar : kVar S (some (some v)) = .ok v S := id rfl
theorem e_kOpt : kOpt S (some v) = .ok v S := id rfl
theorem e_kOptB : kOptB S (some bb) = .ok bb S := id rfl
theorem e_kOptBDt : kOptBD true S (some bb) = .ok (.bl (!bb)) S := id rfl
theorem e_kOptBDf : kOptBD false S (some bb) = .ok (.bl bb) S := id rfl
theorem e_Op2 : mOp2 o a b env S = (a env S).bind (kOp2a o b env) := id rfl
theorem e_Op2a : kOp2a o b env x S = (b env S).bind (kOp2b o x) := id rfl
theorem e_Op2b : kOp2b o x y S = o x y S := id rfl
theorem e_Op1 {o : O1} : mOp1 o a env S = (a env S).bind o := id rfl
theorem e_Nil : mNil env S = .ok [] S := id rfl
theorem e_Cons : mCons a r env S = (a env S).bind (kConsA r env) := id rfl
theorem e_ConsA : kConsA r env x S = (r env S).bind (kConsB x) := id rfl
theorem e_ConsB : kConsB x xs S = .ok (x :: xs) S := id rfl
theorem e_App {o : Fn} : mApp o r env S = (r env S).bind o := id rfl
theorem e_Tup : mTup r env S = (r env S).bind kTup := id rfl
theorem e_kTup : kTup xs S = if xs.length ≤ 16777216 then .ok (.tup xs) S else .bad := id rfl
theorem e_Call : mCall fn r env S = (r env S).bind fn := id rfl
theorem e_Truth {t : D → Store → Option Bool} : mTruth a t env S = (a env S).bind (kTruth t) := id rfl
theorem e_kTruth {t : D → Store → Option Bool} : kTruth t x S = kOptB S (t x S) := id rfl
theorem e_Bool : mBool a env S = (a env S).bind kBool := id rfl
theorem e_kBool : kBool (.bl bb) S = .ok bb S := id rfl
theorem e_Not : mNot t env S = (t env S).bind kNot := id rfl
theorem e_kNot : kNot bb S = .ok (!bb) S := id rfl
theorem e_And : mAnd t u env S = (t env S).bind (kAnd u env) := by
  unfold mAnd; congr 1; funext x S; cases x <;> rfl
theorem e_AndT : kAnd u env true S = u env S := id rfl
theorem e_AndF : kAnd u env false S = .ok false S := id rfl
theorem e_Or : mOr t u env S = (t env S).bind (kOr u env) := by
  unfold mOr; congr 1; funext x S; cases x <;> rfl
theorem e_OrT : kOr u env true S = .ok true S := id rfl
theorem e_OrF : kOr u env false S = u env S := id rfl
theorem e_AndV : mAndV a b env S = (a env S).bind (kAndV b env) := id rfl
theorem e_AndVT : kAndV b env (.bl true) S = b env S := id rfl
theorem e_AndVF : kAndV b env (.bl false) S = .ok (.bl false) S := id rfl
theorem e_OrV : mOrV a b env S = (a env S).bind (kOrV b env) := id rfl
theorem e_OrVT : kOrV b env (.bl true) S = .ok (.bl true) S := id rfl
theorem e_OrVF : kOrV b env (.bl false) S = b env S := id rfl
theorem e_NotV : mNotV a env S = (a env S).bind kNotV := id rfl
theorem e_kNotV : kNotV (.bl bb) S = .ok (.bl (!bb)) S := id rfl
theorem e_Skip : mSkip env S = .ok (.nx, env) S := id rfl
theorem e_Brk : mBrk env S = .ok (.bk, env) S := id rfl
theorem e_Cnt : mCnt env S = .ok (.ct, env) S := id rfl
theorem e_Seq : mSeq m n env S = (m env S).bind (kSeq n) := id rfl
theorem e_SeqN : kSeq n (.nx, env) S = n env S := id rfl
theorem e_SeqR : kSeq n (.rt v, env) S = .ok (.rt v, env) S := id rfl
theorem e_SeqB : kSeq n (.bk, env) S = .ok (.bk, env) S := id rfl
theorem e_SeqC : kSeq n (.ct, env) S = .ok (.ct, env) S := id rfl
theorem e_Set : mSet k a env S = (a env S).bind (kSet k env) := id rfl
theorem e_kSet : kSet k env x S = .ok (.nx, env.set k (some x)) S := id rfl
theorem e_Ret : mRet a env S = (a env S).bind (kRet env) := id rfl
theorem e_kRet : kRet env x S = .ok (.rt x, env) S := id rfl
theorem e_Expr : mExpr a env S = (a env S).bind (kExpr env) := id rfl
theorem e_kExpr : kExpr env x S = .ok (.nx, env) S := id rfl
theorem e_If : mIf t m n env S = (t env S).bind (kIf m n env) := by
  unfold mIf; congr 1; funext x S; cases x <;> rfl
theorem e_IfT : kIf m n env true S = m env S := id rfl
theorem e_IfF : kIf m n env false S = n env S := id rfl
theorem e_run : runBody k m xs S = kRun (m (xs.map some ++ List.replicate (k - xs.length) none) S) := by
  unfold runBody kRun; rfl
theorem e_runN : kRun (.ok (.nx, env) S) = .ok .non S := id rfl
theorem e_runR : kRun (.ok (.rt v, env) S) = .ok v S := id rfl
theorem e_Lst : mLst r env S = (r env S).bind kLst := id rfl
theorem e_kLst : kLst xs S = if xs.length ≤ 16777216 then .ok xs S else .bad := id rfl
theorem e_Alloc : mAlloc r env S = (r env S).bind kAlloc := id rfl
theorem e_kAlloc : kAlloc xs S = .ok (.obj S.length) (S ++ [.lst xs]) := id rfl
theorem e_AppL {o : List D → Store → Res D} : mAppL o r env S = (r env S).bind o := id rfl
theorem e_TupL : oTupL xs S = .ok (.tup xs) S := id rfl
theorem e_InL : mInL bb a r env S = (a env S).bind (kInLa bb r env) := id rfl
theorem e_InLa : kInLa bb r env x S = (r env S).bind (kInLb bb x) := id rfl
theorem e_InLb : kInLb bb x l S = if flatD x && l.all flatD then .ok (.bl (if bb then !(l.any fun y => eqF y x) else l.any fun y => eqF y x)) S else .bad := id rfl
theorem e_IxL : mIxL r b env S = (r env S).bind (kIxLa b env) := by
  unfold mIxL kIxLa kIxLb kOpt; rfl
theorem e_IxLa : kIxLa b env l S = (b env S).bind (kIxLb l) := id rfl
theorem e_IxLb : kIxLb l (.int i) S = kOpt S (atI l i) := id rfl
theorem e_ListOf : mListOf a env S = (a env S).bind kListOf := by
  unfold mListOf kListOf kOptL; rfl
theorem e_kListOf : kListOf x S = kOptL S (seqD x S) := id rfl
theorem e_kOptL : kOptL S (some l) = .ok l S := id rfl
theorem e_NoO : mNoO env S = .ok none S := id rfl
theorem e_SomeO : mSomeO a env S = (a env S).bind kSomeO := id rfl
theorem e_kSomeO : kSomeO (.int i) S = .ok (some i) S := id rfl
theorem e_Slice {ml mh : MO} : mSlice a ml mh env S = (a env S).bind (kSl1 ml mh env) := id rfl
theorem e_Sl1 {ml mh : MO} : kSl1 ml mh env x S = (ml env S).bind (kSl2 mh env x) := id rfl
theorem e_Sl2 {mh : MO} {lo : Option Int} : kSl2 mh env x lo S = (mh env S).bind (kSl3 x lo) := id rfl
theorem e_Sl3 {lo hi : Option Int} : kSl3 x lo hi S = oSlice x lo hi S := id rfl
theorem e_SliceT {lo hi : Option Int} : oSlice (.tup l) lo hi S = .ok (.tup (cutD l lo hi)) S := id rfl
theorem e_Dict0 : mDict0 env S = .ok (.obj S.length) (S ++ [.dct []]) := id rfl
theorem e_Dict {ks : List Key} : mDict ks r env S = (r env S).bind (kDict ks) := id rfl
theorem e_kDict {ks : List Key} : kDict ks xs S = .ok (.obj S.length) (S ++ [.dct ((ks.zip xs).foldl (fun acc kv => putKD acc kv.1 kv.2) [])]) := id rfl
theorem e_Fld : oFld c f (.obj p) S = kFld c f S S[p]? := id rfl
theorem e_kFld : kFld c f S (some (.ins c fs)) = kOpt S (getA f fs) := by unfold kFld; dsimp only; rw [if_pos rfl]
theorem e_SetF : mSetF c f a b env S = (b env S).bind (kSetFa c f a env) := id rfl
theorem e_SetFa : kSetFa c f a env v S = (a env S).bind (kSetFb c f env v) := id rfl
theorem e_SetFb : kSetFb c f env v (.obj p) S = kSetFc c f env v p S S[p]? := id rfl
theorem e_SetFc : kSetFc c f env v p S (some (.ins c fs)) = if fs.length < 1000 then .ok (.nx, env) (S.set p (.ins c (putA f v fs))) else .bad := by
  unfold kSetFc; dsimp only; simp only [true_and]
theorem e_AugF : mAugF c f gg a b env S = (a env S).bind (kAugF c f gg b env) := id rfl
theorem e_kAugF : kAugF c f gg b env x S = (oFld c f x S).bind (kAugFa c f gg b env x) := id rfl
theorem e_AugFa : kAugFa c f gg b env x old S = (b env S).bind (kAugFb c f gg env x old) := id rfl
theorem e_AugFb : kAugFb c f gg env (.obj p) (.int i) (.int j) S = kAugFc c f gg env p S S[p]? (.int i) (.int j) := id rfl
theorem e_AugFc : kAugFc c f gg env p S (some (.ins c fs)) (.int i) (.int j) = if fs.length < 1000 then .ok (.nx, env) (S.set p (.ins c (putA f (.int (gg i j)) fs))) else .bad := by
  unfold kAugFc; dsimp only; simp only [true_and]
theorem e_Aug : mAug k gg a env S = kAug k gg a env S env[k]? := by
  unfold mAug kAug; rfl
theorem e_kAug : kAug k gg a env S (some (some (.int i))) = (a env S).bind (kAugb k gg env i) := id rfl
theorem e_kAugb : kAugb k gg env i (.int j) S = .ok (.nx, env.set k (some (.int (gg i j)))) S := id rfl
theorem e_PutD {mk : ME} : mPutD a mk b env S = (b env S).bind (kPutDa a mk env) := id rfl
theorem e_PutDa {mk : ME} : kPutDa a mk env v S = (a env S).bind (kPutDb mk env v) := id rfl
theorem e_PutDb {mk : ME} : kPutDb mk env v x S = (mk env S).bind (kPutDc env v x) := id rfl
theorem e_PutDc : kPutDc env v (.obj p) x S = kPutDd env v p S S[p]? (keyOf x) := id rfl
theorem e_PutDd : kPutDd env v p S (some (.dct kvs)) (some kk) = if kvs.length < 16777216 then .ok (.nx, env) (S.set p (.dct (putKD kvs kk v))) else .bad := id rfl
theorem e_AugD {mk : ME} : mAugD gg a mk b env S = (a env S).bind (kAugD1 gg mk b env) := id rfl
theorem e_AugD1 {mk : ME} : kAugD1 gg mk b env x S = (mk env S).bind (kAugD2 gg b env x) := id rfl
theorem e_AugD2 : kAugD2 gg b env (.obj p) x S = kAugDa env p gg b S S[p]? (keyOf x) := id rfl
theorem e_AugDa : kAugDa env p gg b S (some (.dct kvs)) (some kk) = kAugDb env p kk gg b S (getK kvs kk) := id rfl
theorem e_AugDb : kAugDb env p kk gg b S (some (.int i)) = (b env S).bind (kAugDc env p kk gg i) := id rfl
theorem e_AugDc : kAugDc env p kk gg i v S = kAugDd env p kk gg i S S[p]? v := id rfl
theorem e_AugDd : kAugDd env p kk gg i S (some (.dct kvs)) (.int j) = if kvs.length < 16777216 then .ok (.nx, env) (S.set p (.dct (putKD kvs kk (.int (gg i j))))) else .bad := id rfl
theorem e_insAt : insAt c (.obj p) S = kIns c S[p]? := by unfold insAt kIns; rfl
theorem e_kIns : kIns c (some (.ins c fs)) = some fs := by unfold kIns; dsimp only; rw [if_pos rfl]
theorem e_Meth : mMeth c f fn a r env S = (a env S).bind (kMethA c f fn r env) := by
  unfold mMeth kMethA kMethB kMethC kMethD; rfl
theorem e_MethA : kMethA c f fn r env x S = kMethB f fn r env x S (insAt c x S) := id rfl
theorem e_MethB : kMethB f fn r env x S (some fs) = kMethC fn r env x S (getA f fs) := id rfl
theorem e_MethC : kMethC fn r env x S none = (r env S).bind (kMethD fn x) := id rfl
theorem e_MethD : kMethD fn x xs S = fn (x :: xs) S := id rfl
theorem e_Prop : mProp c fn a env S = (a env S).bind (kProp c fn) := by
  unfold mProp kProp kPropB; rfl
theorem e_kProp : kProp c fn x S = kPropB fn x S (insAt c x S) := id rfl
theorem e_PropB : kPropB fn x S (some fs) = fn [x] S := id rfl
theorem e_Make : mMake c fn r env S = (r env S).bind (kMake c fn) := by
  unfold mMake kMake kMakeB; rfl
theorem e_kMake : kMake c fn xs S = (fn (.obj S.length :: xs) (S ++ [.ins c []])).bind (kMakeB S.length) := id rfl
theorem e_MakeB : kMakeB k .non S = .ok (.obj k) S := id rfl
theorem e_BM {o : OM} : mBM o a r env S = (a env S).bind (kBM o r env) := by
  unfold mBM; congr 1; funext x S; unfold kBM kBMb; cases isLst x S <;> rfl
theorem e_kBM {o : OM} : kBM o r env x S = kBMb o r env x S (isLst x S) := id rfl
theorem e_BMb {o : OM} : kBMb o r env x S true = (r env S).bind (kBMc o x) := id rfl
theorem e_BMc {o : OM} : kBMc o x xs S = o x xs S := id rfl
def kIsL : Option O → Bool
  | some (.lst _) => true
  | _ => false
theorem e_isLst : isLst (.obj p) S = kIsL S[p]? := by unfold isLst kIsL; rfl
theorem e_kIsL : kIsL (some (.lst l)) = true := id rfl
def kApp (n : Nat) (d : D) (S : Store) : Option O → Res D
  | some (.lst l) => if l.length < 16777216 then .ok .non (S.set n (.lst (l ++ [d]))) else .bad
  | _ => .bad
theorem e_Append : oAppend (.obj p) [v] S = kApp p v S S[p]? := by unfold oAppend kApp; rfl
theorem e_kApp : kApp p v S (some (.lst l)) = if l.length < 16777216 then .ok .non (S.set p (.lst (l ++ [v]))) else .bad := id rfl
def kPop2 (n : Nat) (l : List D) (S : Store) : Option D → Res D
  | some d => .ok d (S.set n (.lst l.dropLast))
  | none => .bad
def kPop (n : Nat) (S : Store) : Option O → Res D
  | some (.lst l) => kPop2 n l S l[l.length - 1]?
  | _ => .bad
theorem e_Pop : oPop (.obj p) [] S = kPop p S S[p]? := by unfold oPop kPop kPop2; rfl
theorem e_kPop : kPop p S (some (.lst (l ++ [v]))) = .ok v (S.set p (.lst l)) := by
  unfold kPop kPop2
  have : (l ++ [v])[(l ++ [v]).length - 1]? = some v := by simp
  dsimp only
  rw [this]; simp
def kExt (n : Nat) (S : Store) : Option O → Option O → Res D
  | some (.lst l), some (.lst l2) => if l.length + l2.length ≤ 16777216 then .ok .non (S.set n (.lst (l ++ l2))) else .bad
  | _, _ => .bad
theorem e_Extend : oExtend (.obj p) [.obj q] S = kExt p S S[p]? S[q]? := by unfold oExtend kExt; rfl
theorem e_kExt : kExt p S (some (.lst l)) (some (.lst xs)) = if l.length + xs.length ≤ 16777216 then .ok .non (S.set p (.lst (l ++ xs))) else .bad := id rfl
theorem e_Asg : mAsg tg a env S = (a env S).bind (kAsg tg env) := by unfold mAsg kAsg kAsgb; rfl
theorem e_kAsg : kAsg tg env x S = kAsgb S (Tg.asg tg x env) := id rfl
theorem e_Asgb : kAsgb S (some env) = .ok (.nx, env) S := id rfl
theorem e_asgN : Tg.asg (.nm k) x env = some (env.set k (some x)) := id rfl
theorem e_asgT {ts : List Tg} : Tg.asg (.tp ts) (.tup l) env = Tg.asgs ts l env := id rfl
theorem e_asgs0 : Tg.asgs [] [] env = some env := id rfl
def kAsgs (ts : List Tg) (ds : List D) : Option Env → Option Env
  | some env1 => Tg.asgs ts ds env1
  | none => none
theorem e_asgs {ts : List Tg} : Tg.asgs (tg :: ts) (x :: l) env = kAsgs ts l (Tg.asg tg x env) := id rfl
theorem e_kAsgs {ts : List Tg} : kAsgs ts l (some env) = Tg.asgs ts l env := id rfl
theorem e_SeqI : mSeqI a env S = (a env S).bind kSeqI := by unfold mSeqI kSeqI kSeqIo; rfl
theorem e_SeqIt : kSeqI (.tup l) S = .ok (l, none) S := id rfl
theorem e_SeqIr : kSeqI (.ro l) S = .ok (l, none) S := id rfl
theorem e_SeqIo : kSeqI (.obj p) S = kSeqIo p S S[p]? := id rfl
theorem e_SeqIp : kSeqIo p S (some (.lst l)) = .ok (l, some (p, .lst l)) S := id rfl
theorem e_SeqL : mSeqL r env S = (r env S).bind kSeqL := id rfl
theorem e_kSeqL : kSeqL l S = .ok (l, none) S := id rfl
theorem e_Range : mRange r env S = (r env S).bind kRange := id rfl
theorem e_Range1 : kRange [.int j] S = if -(2 ^ 62) ≤ j ∧ j < 2 ^ 62 then .ok (rangeD 0 j.toNat, none) S else .bad := id rfl
theorem e_Range2 : kRange [.int i, .int j] S = if -(2 ^ 62) ≤ i ∧ i < 2 ^ 62 ∧ -(2 ^ 62) ≤ j ∧ j < 2 ^ 62 then .ok (rangeD i (j - i).toNat, none) S else .bad := id rfl
theorem range_ok (h0 : -1000000000 ≤ j) (h : j ≤ 1000000000) : kRange [.int j] S = .ok (rangeD 0 j.toNat, none) S := by
  have e : (2 : Int) ^ 62 = 4611686018427387904 := by decide
  rw [e_Range1, if_pos (by rw [e]; omega)]
theorem e_Enum : mEnum a env S = (mSeqI a env S).bind kEnum := id rfl
theorem e_kEnum : kEnum (l, g) S = .ok (enumD 0 l, g) S := id rfl
theorem e_For : mFor mi tg m env S = (mi env S).bind (kFor tg m env) := id rfl
theorem e_kFor : kFor tg m env (l, g) S = loopS tg m g l env S := id rfl
theorem e_loop0 (h : gok g S) : loopS tg m g [] env S = .ok (.nx, env) S := by unfold loopS; rw [if_pos h]
theorem e_loop1 (h : gok g S) : loopS tg m g (x :: l) env S = kLoop1 tg m g l S (Tg.asg tg x env) := by
  rw [loopS, if_pos h]
  cases Tg.asg tg x env with
  | none => rfl
  | some env1 => rfl
theorem e_loop0n : loopS tg m none [] env S = .ok (.nx, env) S := e_loop0 trivial
theorem e_loop1n : loopS tg m none (x :: l) env S = kLoop1 tg m none l S (Tg.asg tg x env) := e_loop1 trivial
theorem e_kLoop1 : kLoop1 tg m g l S (some env) = (m env S).bind (kLoop2 tg m g l) := id rfl
theorem e_loop2n : kLoop2 tg m g l (.nx, env) S = loopS tg m g l env S := id rfl
theorem e_loop2c : kLoop2 tg m g l (.ct, env) S = loopS tg m g l env S := id rfl
theorem e_loop2b : kLoop2 tg m g l (.bk, env) S = .ok (.nx, env) S := id rfl
theorem e_loop2r : kLoop2 tg m g l (.rt v, env) S = .ok (.rt v, env) S := id rfl
theorem e_Lc {vs : List Nat} : mLc vs mi tg t a env S = (mi env S).bind (kLc vs tg t a env) := id rfl
theorem e_kLc {vs : List Nat} : kLc vs tg t a env (l, g) S = loopC vs tg t a g env l [] S := id rfl
theorem e_loopC0 {vs : List Nat} (h : gok g S) : loopC vs tg t a g env [] xs S = .ok xs S := by rw [loopC, if_pos h]
theorem e_loopC1 {vs : List Nat} (h : gok g S) : loopC vs tg t a g env (x :: l) xs S = kLc1 vs tg t a g env l xs S (Tg.asg tg x (wipeE env vs)) := by
  rw [loopC, if_pos h]; unfold kLc1 kLc2 kLc3
  split <;> rename_i h1 <;> rw [h1]
  congr 1; funext z S; cases z <;> rfl
theorem e_loopC0n {vs : List Nat} : loopC vs tg t a none env [] xs S = .ok xs S := e_loopC0 trivial
theorem e_loopC1n {vs : List Nat} : loopC vs tg t a none env (x :: l) xs S = kLc1 vs tg t a none env l xs S (Tg.asg tg x (wipeE env vs)) := e_loopC1 trivial
theorem e_Lc1 {vs : List Nat} {env1 : Env} : kLc1 vs tg t a g env l xs S (some env1) = (t env1 S).bind (kLc2 vs tg t a g env env1 l xs) := id rfl
theorem e_Lc2T {vs : List Nat} {env1 : Env} : kLc2 vs tg t a g env env1 l xs true S = (a env1 S).bind (kLc3 vs tg t a g env l xs) := id rfl
theorem e_Lc2F {vs : List Nat} {env1 : Env} : kLc2 vs tg t a g env env1 l xs false S = loopC vs tg t a g env l xs S := id rfl
theorem e_Lc3 {vs : List Nat} : kLc3 vs tg t a g env l xs x S = if xs.length < 16777216 then loopC vs tg t a g env l (xs ++ [x]) S else .bad := id rfl
noncomputable def kDc (vs : List Nat) (tg : Tg) (t : MT) (ek ev : ME) (env : Env) : List D × Guard → Store → Res D := fun r S1 => (loopDc vs tg t ek ev r.2 env r.1 [] S1).bind kDc9
theorem e_Dc {vs : List Nat} {ek ev : ME} : mDc vs mi tg t ek ev env S = (mi env S).bind (kDc vs tg t ek ev env) := by unfold mDc kDc kDc9; rfl
theorem e_kDc {vs : List Nat} {ek ev : ME} : kDc vs tg t ek ev env (l, g) S = (loopDc vs tg t ek ev g env l [] S).bind kDc9 := id rfl
theorem e_Dc9 : kDc9 kvs S = .ok (.obj S.length) (S ++ [.dct kvs]) := id rfl
theorem e_loopDc0n {vs : List Nat} {ek ev : ME} (h : gok g S) : loopDc vs tg t ek ev g env [] kvs S = .ok kvs S := by rw [loopDc, if_pos h]
theorem e_gok0 : gok none S = True := id rfl
theorem e_gok1 {o : O} : gok (some (p, o)) S = (S[p]? = some o) := id rfl
theorem e_Yes : mYes env S = .ok true S := id rfl
theorem e_wipe0 : wipeE env [] = env := id rfl
theorem e_wipe1 {vs : List Nat} : wipeE env (k :: vs) = (wipeE env vs).set k none := id rfl
theorem e_ok {α β : Type} {a : α} {f : α → Store → Res β} : (Res.ok a S).bind f = f a S := id rfl
/-! the operations -/
theorem e_addI : oAdd (.int i) (.int j) S = .ok (.int (i + j)) S := id rfl
theorem e_addT : oAdd (.tup l) (.tup xs) S = if l.length + xs.length ≤ 16777216 then .ok (.tup (l ++ xs)) S else .bad := id rfl
def kAddL (S : Store) : Option O → Option O → Res D
  | some (.lst xs), some (.lst ys) => if xs.length + ys.length ≤ 16777216 then .ok (.obj S.length) (S ++ [.lst (xs ++ ys)]) else .bad
  | _, _ => .bad
theorem e_addL : oAdd (.obj p) (.obj q) S = kAddL S S[p]? S[q]? := by unfold oAdd kAddL; rfl
theorem e_kAddL : kAddL S (some (.lst l)) (some (.lst xs)) = if l.length + xs.length ≤ 16777216 then .ok (.obj S.length) (S ++ [.lst (l ++ xs)]) else .bad := id rfl
theorem e_sub : oSub (.int i) (.int j) S = .ok (.int (i - j)) S := id rfl
theorem e_mul : oMul (.int i) (.int j) S = if i.natAbs < 18446744073709551616 ∨ j.natAbs < 18446744073709551616 then .ok (.int (i * j)) S else .bad := id rfl
theorem e_div : oDiv (.int i) (.int j) S = if j ≠ 0 ∧ j.natAbs.log2 < 9000 then .ok (.int (i.fdiv j)) S else .bad := id rfl
theorem e_mod : oMod (.int i) (.int j) S = if j ≠ 0 then .ok (.int (i.fmod j)) S else .bad := id rfl
theorem div2 : oDiv (.int i) (.int 2) S = .ok (.int (i.fdiv 2)) S := by rw [e_div, if_pos (by decide)]
theorem mod2 : oMod (.int i) (.int 2) S = .ok (.int (i.fmod 2)) S := by rw [e_mod, if_pos (by decide)]
theorem mul2 : oMul (.int 2) (.int i) S = .ok (.int (2 * i)) S := by rw [e_mul, if_pos (Or.inl (by decide))]
theorem e_pow : oPow (.int i) (.int j) S = if 0 ≤ j ∧ j ≤ 1000000 ∧ i.natAbs < 2 ^ 64 then .ok (.int (i ^ j.toNat)) S else .bad := id rfl
theorem e_neg : oNeg (.int i) S = .ok (.int (-i)) S := id rfl
theorem e_cmp {h : Int → Int → Bool} : oCmp h (.int i) (.int j) S = .ok (.bl (h i j)) S := id rfl
theorem e_eq : oEq x y S = kOptBD false S (eqD x y S) := by unfold oEq kOptBD; cases eqD x y S <;> rfl
theorem e_ne : oNe x y S = kOptBD true S (eqD x y S) := by unfold oNe kOptBD; cases eqD x y S <;> rfl
theorem e_eqI : eqD (.int i) (.int j) S = some (decide (i = j)) := id rfl
theorem e_eqS : eqD (.str s1) (.str s2) S = some (decide (s1 = s2)) := id rfl
theorem e_isN : oIsN bb x .non S = .ok (.bl (if bb then !isNon x else isNon x)) S := id rfl
theorem e_isN0 : isNon .non = true := id rfl
theorem e_isN1 : isNon (.tup l) = false := id rfl
theorem e_isN2 : isNon (.str s1) = false := id rfl
theorem e_isN3 : isNon (.int i) = false := id rfl
theorem e_isN4 : isNon (.bl bb) = false := id rfl
theorem e_isN5 : isNon (.obj k) = false := id rfl
theorem e_in : oIn bb x y S = kOptBD bb S (inD x y S) := by unfold oIn kOptBD; cases inD x y S <;> rfl
theorem e_inT : inD x (.tup l) S = if flatD x && l.all flatD then some (l.any fun y => eqF y x) else none := id rfl
def kInO (x : D) : Option O → Option Bool
  | some (.lst l) => if flatD x && l.all flatD then some (l.any fun y => eqF y x) else none
  | some (.dct kvs) => match keyOf x with
    | some k => some (getK kvs k).isSome
    | none => none
  | _ => none
theorem e_inO : inD x (.obj p) S = kInO x S[p]? := id rfl
theorem e_inL : kInO x (some (.lst l)) = if flatD x && l.all flatD then some (l.any fun y => eqF y x) else none := id rfl
theorem e_inDi : kInO (.int i) (some (.dct kvs)) = some (getK kvs (.inl i)).isSome := id rfl
theorem e_inDs : kInO (.str s1) (some (.dct kvs)) = some (getK kvs (.inr s1)).isSome := id rfl
theorem e_ix : oIx x y S = kOpt S (ixD x y S) := id rfl
theorem e_ixT : ixD (.tup l) (.int i) S = atI l i := id rfl
theorem e_ixR : ixD (.ro l) (.int i) S = atI l i := id rfl
def kIxO (k : D) : Option O → Option D
  | some (.lst l) => match k with
    | .int i => atI l i
    | _ => none
  | some (.dct kvs) => match keyOf k with
    | some k => getK kvs k
    | none => none
  | _ => none
theorem e_ixO : ixD (.obj p) x S = kIxO x S[p]? := id rfl
theorem e_ixL : kIxO (.int i) (some (.lst l)) = atI l i := id rfl
theorem e_ixDi : kIxO (.int i) (some (.dct kvs)) = getK kvs (.inl i) := id rfl
theorem e_ixDs : kIxO (.str s1) (some (.dct kvs)) = getK kvs (.inr s1) := id rfl
def kLenO (S : Store) : Option Nat → Res D
  | some n => .ok (.int n) S
  | none => .bad
theorem e_len : oLen [x] S = kLenO S (lenD x S) := id rfl
theorem e_kLen : kLenO S (some k) = .ok (.int k) S := id rfl
theorem e_lenT : lenD (.tup l) S = some l.length := id rfl
theorem e_lenR : lenD (.ro l) S = some l.length := id rfl
def kLen2 : Option O → Option Nat
  | some (.lst l) => some l.length
  | some (.dct l) => some l.length
  | _ => none
theorem e_lenO : lenD (.obj p) S = kLen2 S[p]? := id rfl
theorem e_lenL : kLen2 (some (.lst l)) = some l.length := id rfl
theorem e_lenD : kLen2 (some (.dct kvs)) = some kvs.length := id rfl
theorem e_intI : oInt [.int i] S = .ok (.int i) S := id rfl
theorem e_intB : oInt [.bl bb] S = .ok (.int (if bb then 1 else 0)) S := id rfl
theorem e_abs : oAbs [.int i] S = .ok (.int (if i < 0 then -i else i)) S := id rfl
theorem e_max : oMax [.int i, .int j] S = .ok (.int (if j > i then j else i)) S := id rfl
theorem e_min : oMin [.int i, .int j] S = .ok (.int (if j < i then j else i)) S := id rfl
def kTupO (S : Store) : Option (List D) → Res D
  | some l => .ok (.tup l) S
  | none => .bad
theorem e_tuple : oTuple [x] S = kTupO S (seqD x S) := id rfl
theorem e_kTupO : kTupO S (some l) = .ok (.tup l) S := id rfl
def kSeqD : Option O → Option (List D)
  | some (.lst l) => some l
  | _ => none
theorem e_seqT : seqD (.tup l) S = some l := id rfl
theorem e_seqO : seqD (.obj p) S = kSeqD S[p]? := id rfl
theorem e_seqL : kSeqD (some (.lst l)) = some l := id rfl
theorem e_truN : truD .non S = some false := id rfl
theorem e_truB : truD (.bl bb) S = some bb := id rfl
theorem e_truI : truD (.int i) S = some (i != 0) := id rfl
theorem e_truT : truD (.tup l) S = some (!l.isEmpty) := id rfl
theorem e_keyI : keyOf (.int i) = some (.inl i) := id rfl
theorem e_keyS : keyOf (.str s1) = some (.inr s1) := id rfl
/-! data -/
theorem e_getA0 : getA f ([] : List (Str × D)) = none := id rfl
theorem e_getA1 : getA f ((s1, x) :: fs) = if f = s1 then some x else getA f fs := id rfl
theorem e_putA0 : putA f x [] = [(f, x)] := id rfl
theorem e_putA1 : putA f x ((s1, y) :: fs) = if s1 = f then (s1, x) :: fs else (s1, y) :: putA f x fs := id rfl
theorem e_at {α : Type} {xs : List α} {n : Nat} : atI xs (n : Nat) = xs[n]? := by
  unfold atI ixN
  rw [if_pos (by omega)]
  by_cases h : (n : Int) < xs.length
  · rw [if_pos h]; simp
  · rw [if_neg h]; simp; omega
theorem e_at0 {α : Type} {x : α} {xs : List α} : atI (x :: xs) 0 = some x := (e_at (n := 0)).trans rfl
theorem e_at1 {α : Type} {x y : α} {xs : List α} : atI (x :: y :: xs) 1 = some y := (e_at (n := 1)).trans rfl
theorem e_at2 {α : Type} {x y z : α} {xs : List α} : atI (x :: y :: z :: xs) 2 = some z := (e_at (n := 2)).trans rfl
theorem e_at3 {α : Type} {x y z w : α} {xs : List α} : atI (x :: y :: z :: w :: xs) 3 = some w := (e_at (n := 3)).trans rfl
theorem e_at4 {α : Type} {x y z w v : α} {xs : List α} : atI (x :: y :: z :: w :: v :: xs) 4 = some v := (e_at (n := 4)).trans rfl
theorem e_atm {α : Type} {x : α} {xs : List α} : atI (xs ++ [x]) (-1) = some x := by
  have h : ixN (xs ++ [x]).length (-1) = some xs.length := by
    unfold ixN
    rw [if_neg (by decide), if_pos (by rw [List.length_append]; simp; omega), List.length_append]
    congr 1
    simp only [List.length_cons, List.length_nil]
    omega
  unfold atI
  rw [h]
  simp
theorem e_app0 {A B : Store} : (A ++ B)[A.length]? = B[0]? := by rw [List.getElem?_append_right (Nat.le_refl _), Nat.sub_self]
theorem e_appn {A B : Store} {n : Nat} : (A ++ B)[A.length + n]? = B[n]? := by rw [List.getElem?_append_right (Nat.le_add_right _ _), Nat.add_sub_cancel_left]
theorem e_aset0 {A B : Store} {o : O} : (A ++ B).set A.length o = A ++ B.set 0 o := by rw [List.set_append_right _ _ (Nat.le_refl _), Nat.sub_self]
theorem e_asetn {A B : Store} {n : Nat} {o : O} : (A ++ B).set (A.length + n) o = A ++ B.set n o := by rw [List.set_append_right _ _ (Nat.le_add_right _ _), Nat.add_sub_cancel_left]
end
theorem loopC_pure {vs : List Nat} {tg : Tg} {t : MT} {a : ME} {env : Env} {S : Store} (f : D → D) (e : D → Env) : ∀ (ds acc : List D), (∀ d, d ∈ ds → Tg.asg tg d (wipeE env vs) = some (e d) ∧ t (e d) S = .ok true S ∧ a (e d) S = .ok (f d) S) →
    acc.length + ds.length ≤ 16777216 → loopC vs tg t a none env ds acc S = .ok (acc ++ ds.map f) S
  | [], acc, _, _ => by rw [e_loopC0n]; simp
  | d :: ds, acc, h, hl => by
    obtain ⟨h1, h2, h3⟩ := h d (by simp)
    rw [List.length_cons] at hl
    rw [e_loopC1n, h1, e_Lc1, h2, e_ok, e_Lc2T, h3, e_ok, e_Lc3, if_pos (by omega), loopC_pure f e ds (acc ++ [f d]) (fun d hd => h d (by simp [hd])) (by simp; omega)]
    simp
end Nd

namespace Nk66
open PySem L2 Nd
def top (i : Nat) : Stmt := PySem.Challenge.pw_needonce_k66_numbers_that_are_shown.main.body.getD i (.Pass ⟨0, 0, 0, 0⟩)
inductive Fi where
  | frame_words | now_words | cell_words | roots | resolved | Renumbering_init | Renumbering_meet | Renumbering_word | Renumbering_words | Renumbering_cell | Renumbering_frame | Renumbering_now | collect_cells | size_of | Heap_init | Heap_make | Heap_cell | Heap_put | Heap_addresses | Heap_cells | Heap_fits | Heap_renew | operand_word | operand_words | delayed_size | body_size | arithmetic | compared | chosen_case | chosen_pick | Machine_init | Machine_stopped | Machine_collect | Machine_has_room | Machine_step | Machine_enter | Machine_make | Machine_make_members | Machine_evaluate | Machine_part_of | Machine_meeting_size | Machine_fault | Machine_meet | Machine_apply | Machine_meet_number | Machine_meet_second | Machine_meet_default | Machine_meet_constructor | run_code | l_draws | l_next | l_number | l_term | l_result | law
def K_CONTAINERS : D := (.tup [(.str "con"), (.str "part")])
def K_ENDS : D := (.tup [(.str "end"), (.str "fault"), (.str "loop"), (.str "full"), (.str "stuck")])
def K_LARGEST : D := (.int 1000000000000000)
noncomputable def b_size_of (F F1 : Fi → Fn) : MS :=
  (mSeq (mSet 1 (mOp2 oIx (mVar 0) (mC (.int 0))))
  (mSeq (mIf (mOr (mBool (mOp2 oEq (mVar 1) (mC (.str "hole")))) (mBool (mOp2 oEq (mVar 1) (mC (.str "on"))))) (mRet (mC (.int 2))) mSkip)
  (mSeq (mIf (mBool (mOp2 oEq (mVar 1) (mC (.str "later")))) (mRet (mApp oMax (mCons (mC (.int 2)) (mCons (mOp2 oAdd (mC (.int 1)) (mApp oLen (mCons (mOp2 oIx (mVar 0) (mC (.int 2))) mNil))) mNil)))) mSkip)
  (mRet (mOp2 oAdd (mC (.int 1)) (mApp oLen (mCons (mOp2 oIx (mVar 0) (mC (.int 2))) mNil)))))))
noncomputable def b_Heap_init (F F1 : Fi → Fn) : MS :=
  (mSeq (mSetF 1 "room" (mVar 0) (mVar 1))
  (mSeq (mSetF 1 "used" (mVar 0) (mC (.int 0)))
  (mSeq (mSetF 1 "next_address" (mVar 0) (mC (.int 0)))
  (mSetF 1 "_cells" (mVar 0) mDict0))))
noncomputable def b_Heap_make (F F1 : Fi → Fn) : MS :=
  (mSeq (mSet 2 (mOp1 (oFld 1 "next_address") (mVar 0)))
  (mSeq (mPutD (mOp1 (oFld 1 "_cells") (mVar 0)) (mVar 2) (mVar 1))
  (mSeq (mAugF 1 "used" (fun i j => i + j) (mVar 0) (mCall (F .size_of) (mCons (mVar 1) mNil)))
  (mSeq (mAugF 1 "next_address" (fun i j => i + j) (mVar 0) (mC (.int 1)))
  (mRet (mVar 2))))))
noncomputable def b_Heap_cell (F F1 : Fi → Fn) : MS :=
  (mRet (mOp2 oIx (mOp1 (oFld 1 "_cells") (mVar 0)) (mVar 1)))
noncomputable def b_Heap_put (F F1 : Fi → Fn) : MS :=
  (mSeq (mAugF 1 "used" (fun i j => i + j) (mVar 0) (mOp2 oSub (mCall (F .size_of) (mCons (mVar 2) mNil)) (mCall (F .size_of) (mCons (mOp2 oIx (mOp1 (oFld 1 "_cells") (mVar 0)) (mVar 1)) mNil))))
  (mPutD (mOp1 (oFld 1 "_cells") (mVar 0)) (mVar 1) (mVar 2)))
noncomputable def b_Heap_fits (F F1 : Fi → Fn) : MS :=
  (mRet (mOp2 oLe (mOp2 oAdd (mOp1 (oFld 1 "used") (mVar 0)) (mVar 1)) (mOp1 (oFld 1 "room") (mVar 0))))
noncomputable def b_operand_word (F F1 : Fi → Fn) : MS :=
  (mSeq (mIf (mBool (mOp2 oEq (mOp2 oIx (mVar 0) (mC (.int 0))) (mC (.str "slot")))) (mRet (mOp2 oIx (mVar 1) (mOp2 oIx (mVar 0) (mC (.int 1))))) mSkip)
  (mSeq (mIf (mBool (mOp2 oEq (mOp2 oIx (mVar 0) (mC (.int 0))) (mC (.str "global")))) (mRet (mOp2 oMul (mC (.int 2)) (mOp2 oIx (mVar 0) (mC (.int 1))))) mSkip)
  (mRet (mOp2 oAdd (mOp2 oMul (mC (.int 2)) (mOp2 oIx (mVar 0) (mC (.int 1)))) (mC (.int 1))))))
noncomputable def b_operand_words (F F1 : Fi → Fn) : MS :=
  (mRet (mAppL oTupL (mLc [2] (mSeqI (mVar 0)) (.nm 2) mYes (mCall (F .operand_word) (mCons (mVar 2) (mCons (mVar 1) mNil))))))
noncomputable def b_delayed_size (F F1 : Fi → Fn) : MS :=
  (mSeq (mIf (mBool (mOp2 oEq (mOp2 oIx (mVar 0) (mC (.int 0))) (mC (.str "later")))) (mRet (mApp oMax (mCons (mC (.int 2)) (mCons (mOp2 oAdd (mC (.int 1)) (mApp oLen (mCons (mOp2 oIx (mVar 0) (mC (.int 1))) mNil))) mNil)))) mSkip)
  (mRet (mOp2 oAdd (mC (.int 1)) (mApp oLen (mCons (mOp2 oIx (mVar 0) (mC (.int 2))) mNil)))))
noncomputable def b_body_size (F F1 : Fi → Fn) : MS :=
  (mSeq (mIf (mBool (mOp2 oEq (mOp2 oIx (mVar 0) (mC (.int 0))) (mC (.str "con")))) (mRet (mOp2 oAdd (mC (.int 1)) (mApp oLen (mCons (mOp2 oIx (mVar 0) (mC (.int 2))) mNil)))) mSkip)
  (mSeq (mIf (mBool (mOp2 oEq (mOp2 oIx (mVar 0) (mC (.int 0))) (mC (.str "let")))) (mRet (mAppL oSumL (mLc [1] (mSeqI (mOp2 oIx (mVar 0) (mC (.int 1)))) (.nm 1) mYes (mCall (F .delayed_size) (mCons (mVar 1) mNil))))) mSkip)
  (mRet (mC (.int 0)))))
noncomputable def b_arithmetic (F F1 : Fi → Fn) : MS :=
  (mSeq (mIf (mBool (mOp2 oEq (mVar 0) (mC (.str "+")))) (mRet (mOp2 oAdd (mVar 1) (mVar 2))) mSkip)
  (mSeq (mIf (mBool (mOp2 oEq (mVar 0) (mC (.str "-")))) (mRet (mOp2 oSub (mVar 1) (mVar 2))) mSkip)
  (mSeq (mIf (mBool (mOp2 oEq (mVar 0) (mC (.str "*")))) (mRet (mOp2 oMul (mVar 1) (mVar 2))) mSkip)
  (mSeq (mIf (mBool (mOp2 oEq (mVar 0) (mC (.str "div")))) (mRet (mOp2 oDiv (mVar 1) (mVar 2))) mSkip)
  (mRet (mOp2 oMod (mApp oInt (mCons (mVar 1) mNil)) (mVar 2)))))))
noncomputable def b_compared (F F1 : Fi → Fn) : MS :=
  (mSeq (mIf (mBool (mOp2 oEq (mVar 0) (mC (.str "==")))) (mRet (mApp oInt (mCons (mOp2 oEq (mVar 1) (mVar 2)) mNil))) mSkip)
  (mSeq (mIf (mBool (mOp2 oEq (mVar 0) (mC (.str "<")))) (mRet (mApp oInt (mCons (mOp2 oLt (mVar 1) (mVar 2)) mNil))) mSkip)
  (mRet (mApp oInt (mCons (mOp2 oLe (mVar 1) (mVar 2)) mNil)))))
noncomputable def b_chosen_case (F F1 : Fi → Fn) : MS :=
  (mSeq (mFor (mSeqI (mVar 1)) (.tp [(.nm 2), (.nm 3), (.nm 4)]) (mIf (mAnd (mBool (mOp2 oEq (mVar 2) (mOp2 oIx (mVar 0) (mC (.int 1))))) (mBool (mOp2 oEq (mVar 3) (mApp oLen (mCons (mOp2 oIx (mVar 0) (mC (.int 2))) mNil))))) (mRet (mVar 4)) mSkip))
  (mRet (mC .non)))
noncomputable def b_chosen_pick (F F1 : Fi → Fn) : MS :=
  (mSeq (mFor (mSeqI (mVar 1)) (.tp [(.nm 2), (.nm 3)]) (mIf (mBool (mOp2 oEq (mVar 2) (mVar 0))) (mRet (mVar 3)) mSkip))
  (mRet (mC .non)))
noncomputable def b_Machine_init (F F1 : Fi → Fn) : MS :=
  (mSeq (mSetF 2 "functions" (mVar 0) (mOp2 oIx (mVar 1) (mC (.int 0))))
  (mSeq (mSetF 2 "heap" (mVar 0) (mMake 1 (F1 .Heap_init) (mCons (mVar 2) mNil)))
  (mSeq (mFor (mEnum (mOp1 (oFld 2 "functions") (mVar 0))) (.tp [(.nm 3), (.tp [(.nm 4), (.nm 5)])]) (mIf (mBool (mOp2 oEq (mVar 4) (mC (.int 0)))) (mExpr (mMeth 1 "make" (F .Heap_make) (mOp1 (oFld 2 "heap") (mVar 0)) (mCons (mTup (mCons (mC (.str "later")) (mCons (mVar 5) (mCons (mTup mNil) (mCons (mVar 3) mNil))))) mNil))) (mExpr (mMeth 1 "make" (F .Heap_make) (mOp1 (oFld 2 "heap") (mVar 0)) (mCons (mTup (mCons (mC (.str "part")) (mCons (mVar 3) (mCons (mTup mNil) mNil)))) mNil)))))
  (mSeq (mSetF 2 "serial" (mVar 0) (mApp oLen (mCons (mOp1 (oFld 2 "functions") (mVar 0)) mNil)))
  (mSeq (mSetF 2 "stack" (mVar 0) (mAlloc (mLst (mCons (mTup (mCons (mC (.str "show")) mNil)) mNil))))
  (mSeq (mSetF 2 "now" (mVar 0) (mTup (mCons (mC (.str "enter")) (mCons (mOp2 oMul (mC (.int 2)) (mOp2 oIx (mVar 1) (mC (.int 1)))) mNil))))
  (mSeq (mSetF 2 "events" (mVar 0) (mAlloc (mLst mNil)))
  (mSeq (mSetF 2 "entered" (mVar 0) (mAlloc (mLst mNil)))
  (mSetF 2 "collections" (mVar 0) (mC (.int 0)))))))))))
noncomputable def b_Machine_stopped (F F1 : Fi → Fn) : MS :=
  (mRet (mOp2 (oIn false) (mOp2 oIx (mOp1 (oFld 2 "now") (mVar 0)) (mC (.int 0))) (mC K_ENDS)))
noncomputable def b_Machine_has_room (F F1 : Fi → Fn) : MS :=
  (mSeq (mIf (mAnd (mBool (mOp2 oGt (mVar 1) (mC (.int 0)))) (mNot (mTruth (mMeth 1 "fits" (F .Heap_fits) (mOp1 (oFld 2 "heap") (mVar 0)) (mCons (mVar 1) mNil)) truD))) (mSeq (mExpr (mMeth 2 "collect" (F .Machine_collect) (mVar 0) mNil))
  (mIf (mNot (mTruth (mMeth 1 "fits" (F .Heap_fits) (mOp1 (oFld 2 "heap") (mVar 0)) (mCons (mVar 1) mNil)) truD)) (mSeq (mSetF 2 "now" (mVar 0) (mTup (mCons (mC (.str "full")) mNil)))
  (mRet (mC (.bl false)))) mSkip)) mSkip)
  (mRet (mC (.bl true))))
noncomputable def b_Machine_step (F F1 : Fi → Fn) : MS :=
  (mIf (mBool (mOp2 oEq (mOp2 oIx (mOp1 (oFld 2 "now") (mVar 0)) (mC (.int 0))) (mC (.str "enter")))) (mExpr (mMeth 2 "enter" (F .Machine_enter) (mVar 0) (mCons (mOp2 oIx (mOp1 (oFld 2 "now") (mVar 0)) (mC (.int 1))) mNil))) (mIf (mBool (mOp2 oEq (mOp2 oIx (mOp1 (oFld 2 "now") (mVar 0)) (mC (.int 0))) (mC (.str "eval")))) (mIf (mTruth (mMeth 2 "has_room" (F .Machine_has_room) (mVar 0) (mCons (mCall (F .body_size) (mCons (mOp2 oIx (mOp1 (oFld 2 "now") (mVar 0)) (mC (.int 1))) mNil)) mNil)) truD) (mExpr (mMeth 2 "evaluate" (F .Machine_evaluate) (mVar 0) (mCons (mOp2 oIx (mOp1 (oFld 2 "now") (mVar 0)) (mC (.int 1))) (mCons (mOp2 oIx (mOp1 (oFld 2 "now") (mVar 0)) (mC (.int 2))) mNil)))) mSkip) (mIf (mBool (mOp2 oEq (mOp2 oIx (mOp1 (oFld 2 "now") (mVar 0)) (mC (.int 0))) (mC (.str "value")))) (mIf (mTruth (mMeth 2 "has_room" (F .Machine_has_room) (mVar 0) (mCons (mMeth 2 "meeting_size" (F .Machine_meeting_size) (mVar 0) mNil) mNil)) truD) (mExpr (mMeth 2 "meet" (F .Machine_meet) (mVar 0) (mCons (mOp2 oIx (mOp1 (oFld 2 "now") (mVar 0)) (mC (.int 1))) (mCons (mBM oPop (mOp1 (oFld 2 "stack") (mVar 0)) mNil) mNil)))) mSkip) mSkip)))
noncomputable def b_Machine_enter (F F1 : Fi → Fn) : MS :=
  (mSeq (mIf (mBool (mOp2 oEq (mOp2 oMod (mVar 1) (mC (.int 2))) (mC (.int 1)))) (mSeq (mSetF 2 "now" (mVar 0) (mTup (mCons (mC (.str "value")) (mCons (mVar 1) mNil))))
  (mRet (mC .non))) mSkip)
  (mSeq (mSet 2 (mMeth 1 "cell" (F .Heap_cell) (mOp1 (oFld 2 "heap") (mVar 0)) (mCons (mOp2 oDiv (mVar 1) (mC (.int 2))) mNil)))
  (mIf (mBool (mOp2 (oIn false) (mOp2 oIx (mVar 2) (mC (.int 0))) (mC K_CONTAINERS))) (mSetF 2 "now" (mVar 0) (mTup (mCons (mC (.str "value")) (mCons (mVar 1) mNil)))) (mIf (mBool (mOp2 oEq (mOp2 oIx (mVar 2) (mC (.int 0))) (mC (.str "on")))) (mSetF 2 "now" (mVar 0) (mTup (mCons (mC (.str "enter")) (mCons (mOp2 oIx (mVar 2) (mC (.int 1))) mNil)))) (mIf (mBool (mOp2 oEq (mOp2 oIx (mVar 2) (mC (.int 0))) (mC (.str "hole")))) (mSetF 2 "now" (mVar 0) (mTup (mCons (mC (.str "loop")) mNil))) (mSeq (mExpr (mMeth 1 "put" (F .Heap_put) (mOp1 (oFld 2 "heap") (mVar 0)) (mCons (mOp2 oDiv (mVar 1) (mC (.int 2))) (mCons (mTup (mCons (mC (.str "hole")) mNil)) mNil))))
  (mSeq (mExpr (mBM oAppend (mOp1 (oFld 2 "entered") (mVar 0)) (mCons (mOp2 oIx (mVar 2) (mC (.int 3))) mNil)))
  (mSeq (mExpr (mBM oAppend (mOp1 (oFld 2 "stack") (mVar 0)) (mCons (mTup (mCons (mC (.str "update")) (mCons (mOp2 oDiv (mVar 1) (mC (.int 2))) mNil))) mNil)))
  (mSetF 2 "now" (mVar 0) (mTup (mCons (mC (.str "eval")) (mCons (mOp2 oIx (mVar 2) (mC (.int 1))) (mCons (mOp2 oIx (mVar 2) (mC (.int 2))) mNil)))))))))))))
noncomputable def b_Machine_make (F F1 : Fi → Fn) : MS :=
  (mRet (mOp2 oMul (mC (.int 2)) (mMeth 1 "make" (F .Heap_make) (mOp1 (oFld 2 "heap") (mVar 0)) (mCons (mVar 1) mNil))))
noncomputable def b_Machine_make_members (F F1 : Fi → Fn) : MS :=
  (mSeq (mSet 3 (mOp1 (oFld 1 "next_address") (mOp1 (oFld 2 "heap") (mVar 0))))
  (mSeq (mSet 2 (mOp2 oAdd (mVar 2) (mAppL oTupL (mLc [5] (mRange (mCons (mApp oLen (mCons (mVar 1) mNil)) mNil)) (.nm 5) mYes (mOp2 oMul (mC (.int 2)) (mOp2 oAdd (mVar 3) (mVar 5)))))))
  (mSeq (mFor (mSeqI (mVar 1)) (.nm 4) (mIf (mBool (mOp2 oEq (mOp2 oIx (mVar 4) (mC (.int 0))) (mC (.str "later")))) (mSeq (mExpr (mMeth 1 "make" (F .Heap_make) (mOp1 (oFld 2 "heap") (mVar 0)) (mCons (mTup (mCons (mC (.str "later")) (mCons (mOp2 oIx (mVar 4) (mC (.int 2))) (mCons (mCall (F .operand_words) (mCons (mOp2 oIx (mVar 4) (mC (.int 1))) (mCons (mVar 2) mNil))) (mCons (mOp1 (oFld 2 "serial") (mVar 0)) mNil))))) mNil)))
  (mAugF 2 "serial" (fun i j => i + j) (mVar 0) (mC (.int 1)))) (mExpr (mMeth 1 "make" (F .Heap_make) (mOp1 (oFld 2 "heap") (mVar 0)) (mCons (mTup (mCons (mOp2 oIx (mVar 4) (mC (.int 0))) (mCons (mOp2 oIx (mVar 4) (mC (.int 1))) (mCons (mCall (F .operand_words) (mCons (mOp2 oIx (mVar 4) (mC (.int 2))) (mCons (mVar 2) mNil))) mNil)))) mNil)))))
  (mRet (mVar 2)))))
noncomputable def b_Machine_evaluate (F F1 : Fi → Fn) : MS :=
  (mSeq (mSet 3 (mOp2 oIx (mVar 1) (mC (.int 0))))
  (mIf (mBool (mOp2 oEq (mVar 3) (mC (.str "give")))) (mSetF 2 "now" (mVar 0) (mTup (mCons (mC (.str "enter")) (mCons (mCall (F .operand_word) (mCons (mOp2 oIx (mVar 1) (mC (.int 1))) (mCons (mVar 2) mNil))) mNil)))) (mIf (mBool (mOp2 oEq (mVar 3) (mC (.str "call")))) (mSeq (mExpr (mBM oAppend (mOp1 (oFld 2 "stack") (mVar 0)) (mCons (mTup (mCons (mC (.str "apply")) (mCons (mCall (F .operand_words) (mCons (mOp2 oIx (mVar 1) (mC (.int 2))) (mCons (mVar 2) mNil))) mNil))) mNil)))
  (mSetF 2 "now" (mVar 0) (mTup (mCons (mC (.str "enter")) (mCons (mCall (F .operand_word) (mCons (mOp2 oIx (mVar 1) (mC (.int 1))) (mCons (mVar 2) mNil))) mNil))))) (mIf (mBool (mOp2 oEq (mVar 3) (mC (.str "con")))) (mSetF 2 "now" (mVar 0) (mTup (mCons (mC (.str "value")) (mCons (mMeth 2 "make" (F .Machine_make) (mVar 0) (mCons (mTup (mCons (mC (.str "con")) (mCons (mOp2 oIx (mVar 1) (mC (.int 1))) (mCons (mCall (F .operand_words) (mCons (mOp2 oIx (mVar 1) (mC (.int 2))) (mCons (mVar 2) mNil))) mNil)))) mNil)) mNil)))) (mIf (mBool (mOp2 oEq (mVar 3) (mC (.str "prim")))) (mSeq (mExpr (mBM oAppend (mOp1 (oFld 2 "stack") (mVar 0)) (mCons (mTup (mCons (mC (.str "right")) (mCons (mOp2 oIx (mVar 1) (mC (.int 1))) (mCons (mOp2 oIx (mVar 1) (mC (.int 3))) (mCons (mVar 2) mNil))))) mNil)))
  (mSetF 2 "now" (mVar 0) (mTup (mCons (mC (.str "enter")) (mCons (mCall (F .operand_word) (mCons (mOp2 oIx (mVar 1) (mC (.int 2))) (mCons (mVar 2) mNil))) mNil))))) (mIf (mBool (mOp2 oEq (mVar 3) (mC (.str "let")))) (mSetF 2 "now" (mVar 0) (mTup (mCons (mC (.str "eval")) (mCons (mOp2 oIx (mVar 1) (mC (.int 2))) (mCons (mMeth 2 "make_members" (F .Machine_make_members) (mVar 0) (mCons (mOp2 oIx (mVar 1) (mC (.int 1))) (mCons (mVar 2) mNil))) mNil))))) (mIf (mBool (mOp2 oEq (mVar 3) (mC (.str "note")))) (mSeq (mExpr (mBM oAppend (mOp1 (oFld 2 "events") (mVar 0)) (mCons (mTup (mCons (mC (.str "note")) (mCons (mOp2 oIx (mVar 1) (mC (.int 1))) mNil))) mNil)))
  (mSetF 2 "now" (mVar 0) (mTup (mCons (mC (.str "eval")) (mCons (mOp2 oIx (mVar 1) (mC (.int 2))) (mCons (mVar 2) mNil)))))) (mIf (mBool (mOp2 oEq (mVar 3) (mC (.str "seq")))) (mSeq (mExpr (mBM oAppend (mOp1 (oFld 2 "stack") (mVar 0)) (mCons (mTup (mCons (mC (.str "seq")) (mCons (mOp2 oIx (mVar 1) (mC (.int 2))) (mCons (mVar 2) mNil)))) mNil)))
  (mSetF 2 "now" (mVar 0) (mTup (mCons (mC (.str "eval")) (mCons (mOp2 oIx (mVar 1) (mC (.int 1))) (mCons (mVar 2) mNil)))))) (mSeq (mExpr (mBM oAppend (mOp1 (oFld 2 "stack") (mVar 0)) (mCons (mTup (mCons (mVar 3) (mCons (mOp2 oIx (mVar 1) (mC (.int 2))) (mCons (mOp2 oIx (mVar 1) (mC (.int 3))) (mCons (mVar 2) mNil))))) mNil)))
  (mSetF 2 "now" (mVar 0) (mTup (mCons (mC (.str "eval")) (mCons (mOp2 oIx (mVar 1) (mC (.int 1))) (mCons (mVar 2) mNil))))))))))))))
noncomputable def b_Machine_part_of (F F1 : Fi → Fn) : MS :=
  (mSeq (mIf (mBool (mOp2 oEq (mOp2 oMod (mVar 1) (mC (.int 2))) (mC (.int 1)))) (mRet (mC .non)) mSkip)
  (mSeq (mSet 2 (mMeth 1 "cell" (F .Heap_cell) (mOp1 (oFld 2 "heap") (mVar 0)) (mCons (mOp2 oDiv (mVar 1) (mC (.int 2))) mNil)))
  (mSeq (mIf (mBool (mOp2 oEq (mOp2 oIx (mVar 2) (mC (.int 0))) (mC (.str "part")))) (mRet (mVar 2)) mSkip)
  (mRet (mC .non)))))
noncomputable def b_Machine_meeting_size (F F1 : Fi → Fn) : MS :=
  (mSeq (mSet 1 (mOp2 oIx (mOp1 (oFld 2 "stack") (mVar 0)) (mOp1 oNeg (mC (.int 1)))))
  (mSeq (mSet 2 (mOp2 oIx (mOp1 (oFld 2 "now") (mVar 0)) (mC (.int 1))))
  (mSeq (mIf (mAnd (mBool (mOp2 oEq (mOp2 oIx (mVar 1) (mC (.int 0))) (mC (.str "prim")))) (mAnd (mBool (mOp2 oEq (mOp2 oMod (mVar 2) (mC (.int 2))) (mC (.int 1)))) (mBool (mOp2 (oIn false) (mOp2 oIx (mVar 1) (mC (.int 1))) (mTup (mCons (mC (.str "==")) (mCons (mC (.str "<")) (mCons (mC (.str "<=")) mNil)))))))) (mRet (mC (.int 1))) mSkip)
  (mSeq (mIf (mBool (mOp2 oEq (mOp2 oIx (mVar 1) (mC (.int 0))) (mC (.str "apply")))) (mSeq (mSet 3 (mMeth 2 "part_of" (F .Machine_part_of) (mVar 0) (mCons (mVar 2) mNil)))
  (mIf (mBool (mOp2 (oIsN true) (mVar 3) (mC .non))) (mSeq (mSet 4 (mOp2 oAdd (mApp oLen (mCons (mOp2 oIx (mVar 3) (mC (.int 2))) mNil)) (mApp oLen (mCons (mOp2 oIx (mVar 1) (mC (.int 1))) mNil))))
  (mIf (mBool (mOp2 oLt (mVar 4) (mOp2 oIx (mOp2 oIx (mOp1 (oFld 2 "functions") (mVar 0)) (mOp2 oIx (mVar 3) (mC (.int 1)))) (mC (.int 0))))) (mRet (mOp2 oAdd (mC (.int 1)) (mVar 4))) mSkip)) mSkip)) mSkip)
  (mRet (mC (.int 0)))))))
noncomputable def b_Machine_fault (F F1 : Fi → Fn) : MS :=
  (mSeq (mExpr (mBM oAppend (mOp1 (oFld 2 "events") (mVar 0)) (mCons (mTup (mCons (mC (.str "fault")) (mCons (mVar 1) mNil))) mNil)))
  (mSetF 2 "now" (mVar 0) (mTup (mCons (mC (.str "fault")) (mCons (mVar 1) mNil)))))
noncomputable def b_Machine_meet (F F1 : Fi → Fn) : MS :=
  (mSeq (mSet 3 (mOp2 oIx (mVar 2) (mC (.int 0))))
  (mIf (mBool (mOp2 oEq (mVar 3) (mC (.str "update")))) (mExpr (mMeth 1 "put" (F .Heap_put) (mOp1 (oFld 2 "heap") (mVar 0)) (mCons (mOp2 oIx (mVar 2) (mC (.int 1))) (mCons (mTup (mCons (mC (.str "on")) (mCons (mVar 1) mNil))) mNil)))) (mIf (mBool (mOp2 oEq (mVar 3) (mC (.str "seq")))) (mSetF 2 "now" (mVar 0) (mTup (mCons (mC (.str "eval")) (mCons (mOp2 oIx (mVar 2) (mC (.int 1))) (mCons (mOp2 oAdd (mOp2 oIx (mVar 2) (mC (.int 2))) (mTup (mCons (mVar 1) mNil))) mNil))))) (mIf (mBool (mOp2 oEq (mVar 3) (mC (.str "apply")))) (mExpr (mMeth 2 "apply" (F .Machine_apply) (mVar 0) (mCons (mVar 1) (mCons (mOp2 oIx (mVar 2) (mC (.int 1))) mNil)))) (mIf (mBool (mOp2 oEq (mOp2 oMod (mVar 1) (mC (.int 2))) (mC (.int 1)))) (mExpr (mMeth 2 "meet_number" (F .Machine_meet_number) (mVar 0) (mCons (mOp2 oDiv (mVar 1) (mC (.int 2))) (mCons (mVar 2) mNil)))) (mIf (mBool (mOp2 oEq (mOp2 oIx (mMeth 1 "cell" (F .Heap_cell) (mOp1 (oFld 2 "heap") (mVar 0)) (mCons (mOp2 oDiv (mVar 1) (mC (.int 2))) mNil)) (mC (.int 0))) (mC (.str "con")))) (mExpr (mMeth 2 "meet_constructor" (F .Machine_meet_constructor) (mVar 0) (mCons (mVar 1) (mCons (mMeth 1 "cell" (F .Heap_cell) (mOp1 (oFld 2 "heap") (mVar 0)) (mCons (mOp2 oDiv (mVar 1) (mC (.int 2))) mNil)) (mCons (mVar 2) mNil))))) (mSetF 2 "now" (mVar 0) (mTup (mCons (mC (.str "stuck")) mNil)))))))))
noncomputable def b_Machine_apply (F F1 : Fi → Fn) : MS :=
  (mSeq (mSet 3 (mMeth 2 "part_of" (F .Machine_part_of) (mVar 0) (mCons (mVar 1) mNil)))
  (mSeq (mIf (mBool (mOp2 (oIsN false) (mVar 3) (mC .non))) (mSeq (mSetF 2 "now" (mVar 0) (mTup (mCons (mC (.str "stuck")) mNil)))
  (mRet (mC .non))) mSkip)
  (mSeq (mAsg (.tp [(.nm 4), (.nm 5)]) (mOp2 oIx (mOp1 (oFld 2 "functions") (mVar 0)) (mOp2 oIx (mVar 3) (mC (.int 1)))))
  (mSeq (mSet 6 (mOp2 oAdd (mOp2 oIx (mVar 3) (mC (.int 2))) (mVar 2)))
  (mSeq (mIf (mBool (mOp2 oLt (mApp oLen (mCons (mVar 6) mNil)) (mVar 4))) (mSeq (mSetF 2 "now" (mVar 0) (mTup (mCons (mC (.str "value")) (mCons (mMeth 2 "make" (F .Machine_make) (mVar 0) (mCons (mTup (mCons (mC (.str "part")) (mCons (mOp2 oIx (mVar 3) (mC (.int 1))) (mCons (mVar 6) mNil)))) mNil)) mNil))))
  (mRet (mC .non))) mSkip)
  (mSeq (mIf (mBool (mOp2 oGt (mApp oLen (mCons (mVar 6) mNil)) (mVar 4))) (mExpr (mBM oAppend (mOp1 (oFld 2 "stack") (mVar 0)) (mCons (mTup (mCons (mC (.str "apply")) (mCons (mSlice (mVar 6) (mSomeO (mVar 4)) mNoO) mNil))) mNil))) mSkip)
  (mSetF 2 "now" (mVar 0) (mTup (mCons (mC (.str "eval")) (mCons (mVar 5) (mCons (mSlice (mVar 6) mNoO (mSomeO (mVar 4))) mNil)))))))))))
noncomputable def b_Machine_meet_number (F F1 : Fi → Fn) : MS :=
  (mSeq (mSet 3 (mOp2 oIx (mVar 2) (mC (.int 0))))
  (mIf (mBool (mOp2 oEq (mVar 3) (mC (.str "head")))) (mSeq (mExpr (mBM oAppend (mOp1 (oFld 2 "events") (mVar 0)) (mCons (mTup (mCons (mC (.str "show")) (mCons (mVar 1) mNil))) mNil)))
  (mSeq (mExpr (mBM oAppend (mOp1 (oFld 2 "stack") (mVar 0)) (mCons (mTup (mCons (mC (.str "show")) mNil)) mNil)))
  (mSetF 2 "now" (mVar 0) (mTup (mCons (mC (.str "enter")) (mCons (mOp2 oIx (mVar 2) (mC (.int 1))) mNil)))))) (mIf (mBool (mOp2 oEq (mVar 3) (mC (.str "pick")))) (mSeq (mSet 4 (mCall (F .chosen_pick) (mCons (mVar 1) (mCons (mOp2 oIx (mVar 2) (mC (.int 1))) mNil))))
  (mIf (mBool (mOp2 (oIsN true) (mVar 4) (mC .non))) (mSetF 2 "now" (mVar 0) (mTup (mCons (mC (.str "eval")) (mCons (mVar 4) (mCons (mOp2 oIx (mVar 2) (mC (.int 3))) mNil))))) (mExpr (mMeth 2 "meet_default" (F .Machine_meet_default) (mVar 0) (mCons (mOp2 oAdd (mOp2 oMul (mC (.int 2)) (mVar 1)) (mC (.int 1))) (mCons (mVar 2) mNil)))))) (mIf (mBool (mOp2 oEq (mVar 3) (mC (.str "right")))) (mSeq (mExpr (mBM oAppend (mOp1 (oFld 2 "stack") (mVar 0)) (mCons (mTup (mCons (mC (.str "prim")) (mCons (mOp2 oIx (mVar 2) (mC (.int 1))) (mCons (mVar 1) mNil)))) mNil)))
  (mSetF 2 "now" (mVar 0) (mTup (mCons (mC (.str "enter")) (mCons (mCall (F .operand_word) (mCons (mOp2 oIx (mVar 2) (mC (.int 2))) (mCons (mOp2 oIx (mVar 2) (mC (.int 3))) mNil))) mNil))))) (mIf (mBool (mOp2 oEq (mVar 3) (mC (.str "prim")))) (mExpr (mMeth 2 "meet_second" (F .Machine_meet_second) (mVar 0) (mCons (mOp2 oIx (mVar 2) (mC (.int 1))) (mCons (mOp2 oIx (mVar 2) (mC (.int 2))) (mCons (mVar 1) mNil))))) (mSetF 2 "now" (mVar 0) (mTup (mCons (mC (.str "stuck")) mNil))))))))
noncomputable def b_Machine_meet_second (F F1 : Fi → Fn) : MS :=
  (mSeq (mIf (mBool (mOp2 (oIn false) (mVar 1) (mTup (mCons (mC (.str "==")) (mCons (mC (.str "<")) (mCons (mC (.str "<=")) mNil)))))) (mSeq (mSetF 2 "now" (mVar 0) (mTup (mCons (mC (.str "value")) (mCons (mMeth 2 "make" (F .Machine_make) (mVar 0) (mCons (mTup (mCons (mC (.str "con")) (mCons (mCall (F .compared) (mCons (mVar 1) (mCons (mVar 2) (mCons (mVar 3) mNil)))) (mCons (mTup mNil) mNil)))) mNil)) mNil))))
  (mRet (mC .non))) mSkip)
  (mSeq (mIf (mAnd (mBool (mOp2 oEq (mVar 3) (mC (.int 0)))) (mBool (mOp2 (oIn false) (mVar 1) (mTup (mCons (mC (.str "div")) (mCons (mC (.str "mod")) mNil)))))) (mSeq (mExpr (mMeth 2 "fault" (F .Machine_fault) (mVar 0) (mCons (mC (.str "division by zero")) mNil)))
  (mRet (mC .non))) mSkip)
  (mSeq (mSet 4 (mCall (F .arithmetic) (mCons (mVar 1) (mCons (mVar 2) (mCons (mVar 3) mNil)))))
  (mIf (mBool (mOp2 oGt (mApp oAbs (mCons (mVar 4) mNil)) (mC K_LARGEST))) (mExpr (mMeth 2 "fault" (F .Machine_fault) (mVar 0) (mCons (mC (.str "overflow")) mNil))) (mSetF 2 "now" (mVar 0) (mTup (mCons (mC (.str "value")) (mCons (mOp2 oAdd (mOp2 oMul (mC (.int 2)) (mVar 4)) (mC (.int 1))) mNil))))))))
noncomputable def b_Machine_meet_default (F F1 : Fi → Fn) : MS :=
  (mIf (mBool (mOp2 (oIsN false) (mOp2 oIx (mVar 2) (mC (.int 2))) (mC .non))) (mExpr (mMeth 2 "fault" (F .Machine_fault) (mVar 0) (mCons (mC (.str "no match")) mNil))) (mSetF 2 "now" (mVar 0) (mTup (mCons (mC (.str "eval")) (mCons (mOp2 oIx (mVar 2) (mC (.int 2))) (mCons (mOp2 oAdd (mOp2 oIx (mVar 2) (mC (.int 3))) (mTup (mCons (mVar 1) mNil))) mNil))))))
noncomputable def b_Machine_meet_constructor (F F1 : Fi → Fn) : MS :=
  (mIf (mBool (mOp2 oEq (mOp2 oIx (mVar 3) (mC (.int 0))) (mC (.str "case")))) (mSeq (mSet 4 (mCall (F .chosen_case) (mCons (mVar 2) (mCons (mOp2 oIx (mVar 3) (mC (.int 1))) mNil))))
  (mIf (mBool (mOp2 (oIsN true) (mVar 4) (mC .non))) (mSetF 2 "now" (mVar 0) (mTup (mCons (mC (.str "eval")) (mCons (mVar 4) (mCons (mOp2 oAdd (mOp2 oIx (mVar 3) (mC (.int 3))) (mOp2 oIx (mVar 2) (mC (.int 2)))) mNil))))) (mExpr (mMeth 2 "meet_default" (F .Machine_meet_default) (mVar 0) (mCons (mVar 1) (mCons (mVar 3) mNil)))))) (mIf (mAnd (mBool (mOp2 oEq (mOp2 oIx (mVar 3) (mC (.int 0))) (mC (.str "show")))) (mBool (mOp2 oEq (mOp2 oIx (mVar 2) (mC (.int 1))) (mC (.int 0))))) (mSeq (mExpr (mBM oAppend (mOp1 (oFld 2 "events") (mVar 0)) (mCons (mTup (mCons (mC (.str "end")) mNil)) mNil)))
  (mSetF 2 "now" (mVar 0) (mTup (mCons (mC (.str "end")) mNil)))) (mIf (mAnd (mBool (mOp2 oEq (mOp2 oIx (mVar 3) (mC (.int 0))) (mC (.str "show")))) (mAnd (mBool (mOp2 oEq (mOp2 oIx (mVar 2) (mC (.int 1))) (mC (.int 1)))) (mBool (mOp2 oEq (mApp oLen (mCons (mOp2 oIx (mVar 2) (mC (.int 2))) mNil)) (mC (.int 2)))))) (mSeq (mExpr (mBM oAppend (mOp1 (oFld 2 "stack") (mVar 0)) (mCons (mTup (mCons (mC (.str "head")) (mCons (mOp2 oIx (mOp2 oIx (mVar 2) (mC (.int 2))) (mC (.int 1))) mNil))) mNil)))
  (mSetF 2 "now" (mVar 0) (mTup (mCons (mC (.str "enter")) (mCons (mOp2 oIx (mOp2 oIx (mVar 2) (mC (.int 2))) (mC (.int 0))) mNil))))) (mSetF 2 "now" (mVar 0) (mTup (mCons (mC (.str "stuck")) mNil))))))
noncomputable def b_run_code (F F1 : Fi → Fn) : MS :=
  (mSeq (mSet 4 (mMake 2 (F1 .Machine_init) (mCons (mVar 0) (mCons (mVar 1) mNil))))
  (mSeq (mSet 5 (mDc [6] (mSeqI (mVar 2)) (.nm 6) mYes (mVar 6) (mC (.bl true))))
  (mSeq (mFor (mRange (mCons (mVar 3) mNil)) (.nm 6) (mSeq (mIf (mTruth (mProp 2 (F1 .Machine_stopped) (mVar 4)) truD) mBrk mSkip)
  (mSeq (mIf (mBool (mOp2 (oIn false) (mVar 6) (mVar 5))) (mExpr (mMeth 2 "collect" (F .Machine_collect) (mVar 4) mNil)) mSkip)
  (mExpr (mMeth 2 "step" (F .Machine_step) (mVar 4) mNil)))))
  (mSeq (mSet 7 (mTup (mCons (mC (.str "more")) mNil)))
  (mSeq (mIf (mTruth (mProp 2 (F1 .Machine_stopped) (mVar 4)) truD) (mSet 7 (mOp1 (oFld 2 "now") (mVar 4))) mSkip)
  (mRet (mTup (mCons (mApp oTuple (mCons (mOp1 (oFld 2 "events") (mVar 4)) mNil)) (mCons (mVar 7) (mCons (mApp oLen (mCons (mOp1 (oFld 2 "entered") (mVar 4)) mNil)) (mCons (mOp1 (oFld 2 "collections") (mVar 4)) mNil)))))))))))
noncomputable def b_l_draws (F F1 : Fi → Fn) : MS :=
  (mSeq (mSet 2 (mAlloc (mLst mNil)))
  (mSeq (mSet 3 (mC (.int 7)))
  (mSeq (mFor (mRange (mCons (mApp oLen (mCons (mVar 0) mNil)) mNil)) (.nm 4) (mSeq (mSet 5 (mApp oAbs (mCons (mApp oInt (mCons (mOp2 oIx (mVar 0) (mVar 4)) mNil)) mNil)))
  (mSeq (mSet 3 (mOp2 oMod (mApp oInt (mCons (mOp2 oAdd (mOp2 oAdd (mOp2 oMul (mVar 3) (mC (.int 48271))) (mOp2 oMod (mVar 5) (mC (.int 1000003)))) (mVar 4)) mNil)) (mC (.int 65537))))
  (mSeq (mSet 6 (mC (.int 0)))
  (mSeq (mIf (mBool (mOp2 oGe (mVar 5) (mOp2 oPow (mC (.int 10)) (mC (.int 18))))) (mSet 6 (mVar 5)) (mSeq (mExpr (mBM oAppend (mVar 2) (mCons (mOp2 oMod (mApp oInt (mCons (mVar 5) mNil)) (mC (.int 997))) mNil)))
  (mExpr (mBM oAppend (mVar 2) (mCons (mOp2 oMod (mOp2 oMod (mApp oInt (mCons (mOp2 oAdd (mOp2 oMul (mVar 3) (mC (.int 69621))) (mC (.int 5))) mNil)) (mC (.int 65521))) (mC (.int 997))) mNil)))))
  (mFor (mRange (mCons (mC (.int 60)) mNil)) (.nm 7) (mIf (mBool (mOp2 oGt (mVar 6) (mC (.int 0)))) (mSeq (mExpr (mBM oAppend (mVar 2) (mCons (mOp2 oMod (mApp oInt (mCons (mVar 6) mNil)) (mC (.int 997))) mNil)))
  (mSet 6 (mOp2 oDiv (mVar 6) (mC (.int 997))))) mSkip)))))))
  (mSeq (mFor (mRange (mCons (mVar 1) mNil)) (.nm 4) (mSeq (mSet 3 (mOp2 oMod (mApp oInt (mCons (mOp2 oAdd (mOp2 oAdd (mOp2 oMul (mVar 3) (mC (.int 16807))) (mVar 4)) (mC (.int 1))) mNil)) (mC (.int 65537))))
  (mExpr (mBM oAppend (mVar 2) (mCons (mOp2 oMod (mApp oInt (mCons (mVar 3) mNil)) (mC (.int 997))) mNil)))))
  (mRet (mSlice (mVar 2) mNoO (mSomeO (mVar 1))))))))
noncomputable def b_l_next (F F1 : Fi → Fn) : MS :=
  (mSeq (mAugD (fun i j => i + j) (mVar 0) (mC (.str "at")) (mC (.int 1)))
  (mSeq (mIf (mBool (mOp2 oGt (mOp2 oIx (mVar 0) (mC (.str "at"))) (mApp oLen (mCons (mOp2 oIx (mVar 0) (mC (.str "draws"))) mNil)))) (mRet (mC (.int 0))) mSkip)
  (mRet (mOp2 oMod (mApp oInt (mCons (mOp2 oIx (mOp2 oIx (mVar 0) (mC (.str "draws"))) (mOp2 oSub (mOp2 oIx (mVar 0) (mC (.str "at"))) (mC (.int 1)))) mNil)) (mVar 1)))))
noncomputable def b_l_number (F F1 : Fi → Fn) : MS :=
  (mSeq (mSet 1 (mCall (F .l_next) (mCons (mVar 0) (mCons (mC (.int 6)) mNil))))
  (mSeq (mIf (mBool (mOp2 oEq (mVar 1) (mC (.int 0)))) (mRet (mOp2 oSub (mCall (F .l_next) (mCons (mVar 0) (mCons (mC (.int 3)) mNil))) (mC (.int 1)))) mSkip)
  (mSeq (mIf (mBool (mOp2 oEq (mVar 1) (mC (.int 1)))) (mRet (mOp2 oSub (mOp2 oPow (mC (.int 10)) (mC (.int 15))) (mCall (F .l_next) (mCons (mVar 0) (mCons (mC (.int 30)) mNil))))) mSkip)
  (mSeq (mIf (mBool (mOp2 oEq (mVar 1) (mC (.int 2)))) (mRet (mOp2 oSub (mCall (F .l_next) (mCons (mVar 0) (mCons (mC (.int 30)) mNil))) (mOp2 oPow (mC (.int 10)) (mC (.int 15))))) mSkip)
  (mSeq (mIf (mBool (mOp2 oEq (mVar 1) (mC (.int 3)))) (mRet (mOp2 oSub (mOp2 oMul (mOp2 oAdd (mOp2 oMul (mCall (F .l_next) (mCons (mVar 0) (mCons (mC (.int 997)) mNil))) (mC (.int 997))) (mCall (F .l_next) (mCons (mVar 0) (mCons (mC (.int 997)) mNil)))) (mC (.int 97))) (mC (.int 40000000)))) mSkip)
  (mRet (mOp2 oSub (mCall (F .l_next) (mCons (mVar 0) (mCons (mC (.int 60)) mNil))) (mC (.int 30)))))))))
noncomputable def b_l_term (F F1 : Fi → Fn) : MS :=
  (mSeq (mSet 3 (mTup (mCons (mC (.str "prim")) (mCons (mVar 0) (mCons (mTup (mCons (mC (.str "number")) (mCons (mVar 1) mNil))) (mCons (mTup (mCons (mC (.str "number")) (mCons (mVar 2) mNil))) mNil))))))
  (mSeq (mIf (mBool (mInL false (mVar 0) (mLst (mCons (mC (.str "==")) (mCons (mC (.str "<")) (mCons (mC (.str "<=")) mNil)))))) (mSeq (mSet 4 (mTup (mCons (mTup (mCons (mC (.int 0)) (mCons (mC (.int 0)) (mCons (mTup (mCons (mC (.str "give")) (mCons (mTup (mCons (mC (.str "number")) (mCons (mC (.int 0)) mNil))) mNil))) mNil)))) (mCons (mTup (mCons (mC (.int 1)) (mCons (mC (.int 0)) (mCons (mTup (mCons (mC (.str "give")) (mCons (mTup (mCons (mC (.str "number")) (mCons (mC (.int 1)) mNil))) mNil))) mNil)))) mNil))))
  (mRet (mTup (mCons (mC (.str "case")) (mCons (mVar 3) (mCons (mVar 4) (mCons (mC .non) mNil))))))) mSkip)
  (mRet (mVar 3))))
noncomputable def b_l_result (F F1 : Fi → Fn) : MS :=
  (mSeq (mIf (mAnd (mBool (mInL false (mVar 0) (mLst (mCons (mC (.str "div")) (mCons (mC (.str "mod")) mNil))))) (mBool (mOp2 oEq (mVar 2) (mC (.int 0))))) (mRet (mTup (mCons (mC (.str "fault")) (mCons (mC (.str "division by zero")) mNil)))) mSkip)
  (mSeq (mIf (mBool (mOp2 oEq (mVar 0) (mC (.str "==")))) (mRet (mTup (mCons (mC (.str "show")) (mCons (mApp oInt (mCons (mOp2 oEq (mVar 1) (mVar 2)) mNil)) mNil)))) mSkip)
  (mSeq (mIf (mBool (mOp2 oEq (mVar 0) (mC (.str "<")))) (mRet (mTup (mCons (mC (.str "show")) (mCons (mApp oInt (mCons (mOp2 oLt (mVar 1) (mVar 2)) mNil)) mNil)))) mSkip)
  (mSeq (mIf (mBool (mOp2 oEq (mVar 0) (mC (.str "<=")))) (mRet (mTup (mCons (mC (.str "show")) (mCons (mApp oInt (mCons (mOp2 oLe (mVar 1) (mVar 2)) mNil)) mNil)))) mSkip)
  (mSeq (mIf (mBool (mOp2 oEq (mVar 0) (mC (.str "div")))) (mRet (mTup (mCons (mC (.str "show")) (mCons (mOp2 oDiv (mVar 1) (mVar 2)) mNil)))) mSkip)
  (mSeq (mSet 3 (mOp2 oAdd (mVar 1) (mVar 2)))
  (mSeq (mIf (mBool (mOp2 oEq (mVar 0) (mC (.str "-")))) (mSet 3 (mOp2 oSub (mVar 1) (mVar 2))) (mIf (mBool (mOp2 oEq (mVar 0) (mC (.str "*")))) (mSet 3 (mOp2 oMul (mVar 1) (mVar 2))) (mIf (mBool (mOp2 oEq (mVar 0) (mC (.str "mod")))) (mSet 3 (mOp2 oSub (mVar 1) (mOp2 oMul (mVar 2) (mOp2 oDiv (mVar 1) (mVar 2))))) mSkip)))
  (mSeq (mIf (mOr (mBool (mOp2 oGt (mVar 3) (mOp2 oPow (mC (.int 10)) (mC (.int 15))))) (mBool (mOp2 oLt (mVar 3) (mOp2 oSub (mC (.int 0)) (mOp2 oPow (mC (.int 10)) (mC (.int 15))))))) (mRet (mTup (mCons (mC (.str "fault")) (mCons (mC (.str "overflow")) mNil)))) mSkip)
  (mRet (mTup (mCons (mC (.str "show")) (mCons (mVar 3) mNil))))))))))))
noncomputable def b_law (F F1 : Fi → Fn) : MS :=
  (mSeq (mSet 1 (mDict [.inr "draws", .inr "at"] (mCons (mCall (F .l_draws) (mCons (mVar 0) (mCons (mC (.int 200)) mNil))) (mCons (mC (.int 0)) mNil))))
  (mSeq (mSet 2 (mTup (mCons (mC (.str "con")) (mCons (mC (.int 0)) (mCons (mTup mNil) mNil)))))
  (mSeq (mSet 3 (mAlloc (mLst (mCons (mTup (mCons (mC (.str "end")) mNil)) mNil))))
  (mSeq (mFor (mRange (mCons (mCall (F .l_next) (mCons (mVar 1) (mCons (mC (.int 15)) mNil))) mNil)) (.nm 4) (mSeq (mSet 5 (mIxL (mLst (mCons (mC (.str "+")) (mCons (mC (.str "-")) (mCons (mC (.str "*")) (mCons (mC (.str "div")) (mCons (mC (.str "mod")) (mCons (mC (.str "==")) (mCons (mC (.str "<")) (mCons (mC (.str "<=")) mNil))))))))) (mCall (F .l_next) (mCons (mVar 1) (mCons (mC (.int 8)) mNil)))))
  (mSeq (mSet 6 (mCall (F .l_number) (mCons (mVar 1) mNil)))
  (mSeq (mSet 7 (mCall (F .l_number) (mCons (mVar 1) mNil)))
  (mSeq (mSet 2 (mTup (mCons (mC (.str "let")) (mCons (mTup (mCons (mTup (mCons (mC (.str "later")) (mCons (mTup mNil) (mCons (mCall (F .l_term) (mCons (mVar 5) (mCons (mVar 6) (mCons (mVar 7) mNil)))) mNil)))) (mCons (mTup (mCons (mC (.str "later")) (mCons (mTup mNil) (mCons (mVar 2) mNil)))) mNil))) (mCons (mTup (mCons (mC (.str "con")) (mCons (mC (.int 1)) (mCons (mTup (mCons (mTup (mCons (mC (.str "slot")) (mCons (mC (.int 0)) mNil))) (mCons (mTup (mCons (mC (.str "slot")) (mCons (mC (.int 1)) mNil))) mNil))) mNil)))) mNil)))))
  (mSet 3 (mOp2 oAdd (mAlloc (mLst (mCons (mCall (F .l_result) (mCons (mVar 5) (mCons (mVar 6) (mCons (mVar 7) mNil)))) mNil))) (mVar 3))))))))
  (mSeq (mSet 8 (mAlloc (mLst mNil)))
  (mSeq (mFor (mSeqI (mVar 3)) (.nm 9) (mIf (mOr (mBool (mOp2 oEq (mVar 8) (mAlloc (mLst mNil)))) (mBool (mOp2 oEq (mOp2 oIx (mOp2 oIx (mVar 8) (mOp1 oNeg (mC (.int 1)))) (mC (.int 0))) (mC (.str "show"))))) (mExpr (mBM oAppend (mVar 8) (mCons (mVar 9) mNil))) mSkip))
  (mSeq (mAsg (.tp [(.nm 10), (.nm 11), (.nm 12), (.nm 13)]) (mCall (F .run_code) (mCons (mTup (mCons (mTup (mCons (mTup (mCons (mC (.int 0)) (mCons (mVar 2) mNil))) mNil)) (mCons (mC (.int 0)) mNil))) (mCons (mOp2 oPow (mC (.int 10)) (mC (.int 4))) (mCons (mAlloc (mLst mNil)) (mCons (mC (.int 4000)) mNil))))))
  (mSeq (mIf (mOr (mBool (mOp2 oNe (mVar 10) (mApp oTuple (mCons (mVar 8) mNil)))) (mOr (mBool (mOp2 oNe (mVar 11) (mOp2 oIx (mVar 8) (mOp1 oNeg (mC (.int 1)))))) (mBool (mOp2 oNe (mVar 13) (mC (.int 0)))))) (mRet (mC (.bl false))) mSkip)
  (mSeq (mSet 14 (mOp2 oSub (mApp oLen (mCons (mVar 8) mNil)) (mC (.int 1))))
  (mSeq (mIf (mBool (mOp2 oEq (mOp2 oIx (mVar 8) (mOp1 oNeg (mC (.int 1)))) (mTup (mCons (mC (.str "end")) mNil)))) (mRet (mOp2 oEq (mVar 12) (mOp2 oAdd (mC (.int 1)) (mOp2 oMul (mC (.int 2)) (mVar 14))))) mSkip)
  (mRet (mOp2 oEq (mVar 12) (mOp2 oAdd (mC (.int 2)) (mOp2 oMul (mC (.int 2)) (mVar 14)))))))))))))))
noncomputable def disp (F F1 : Fi → Fn) : Fi → Fn
  | .frame_words => fun _ _ => .bad
  | .now_words => fun _ _ => .bad
  | .cell_words => fun _ _ => .bad
  | .roots => fun _ _ => .bad
  | .resolved => fun _ _ => .bad
  | .Renumbering_init => fun _ _ => .bad
  | .Renumbering_meet => fun _ _ => .bad
  | .Renumbering_word => fun _ _ => .bad
  | .Renumbering_words => fun _ _ => .bad
  | .Renumbering_cell => fun _ _ => .bad
  | .Renumbering_frame => fun _ _ => .bad
  | .Renumbering_now => fun _ _ => .bad
  | .collect_cells => fun _ _ => .bad
  | .size_of => runBody 2 (b_size_of F F1)
  | .Heap_init => runBody 2 (b_Heap_init F F1)
  | .Heap_make => runBody 3 (b_Heap_make F F1)
  | .Heap_cell => runBody 2 (b_Heap_cell F F1)
  | .Heap_put => runBody 3 (b_Heap_put F F1)
  | .Heap_addresses => fun _ _ => .bad
  | .Heap_cells => fun _ _ => .bad
  | .Heap_fits => runBody 2 (b_Heap_fits F F1)
  | .Heap_renew => fun _ _ => .bad
  | .operand_word => runBody 2 (b_operand_word F F1)
  | .operand_words => runBody 3 (b_operand_words F F1)
  | .delayed_size => runBody 1 (b_delayed_size F F1)
  | .body_size => runBody 2 (b_body_size F F1)
  | .arithmetic => runBody 3 (b_arithmetic F F1)
  | .compared => runBody 3 (b_compared F F1)
  | .chosen_case => runBody 5 (b_chosen_case F F1)
  | .chosen_pick => runBody 4 (b_chosen_pick F F1)
  | .Machine_init => runBody 6 (b_Machine_init F F1)
  | .Machine_stopped => runBody 1 (b_Machine_stopped F F1)
  | .Machine_collect => fun _ _ => .bad
  | .Machine_has_room => runBody 2 (b_Machine_has_room F F1)
  | .Machine_step => runBody 1 (b_Machine_step F F1)
  | .Machine_enter => runBody 3 (b_Machine_enter F F1)
  | .Machine_make => runBody 2 (b_Machine_make F F1)
  | .Machine_make_members => runBody 6 (b_Machine_make_members F F1)
  | .Machine_evaluate => runBody 4 (b_Machine_evaluate F F1)
  | .Machine_part_of => runBody 3 (b_Machine_part_of F F1)
  | .Machine_meeting_size => runBody 5 (b_Machine_meeting_size F F1)
  | .Machine_fault => runBody 2 (b_Machine_fault F F1)
  | .Machine_meet => runBody 4 (b_Machine_meet F F1)
  | .Machine_apply => runBody 7 (b_Machine_apply F F1)
  | .Machine_meet_number => runBody 5 (b_Machine_meet_number F F1)
  | .Machine_meet_second => runBody 5 (b_Machine_meet_second F F1)
  | .Machine_meet_default => runBody 3 (b_Machine_meet_default F F1)
  | .Machine_meet_constructor => runBody 5 (b_Machine_meet_constructor F F1)
  | .run_code => runBody 8 (b_run_code F F1)
  | .l_draws => runBody 8 (b_l_draws F F1)
  | .l_next => runBody 2 (b_l_next F F1)
  | .l_number => runBody 2 (b_l_number F F1)
  | .l_term => runBody 5 (b_l_term F F1)
  | .l_result => runBody 4 (b_l_result F F1)
  | .law => runBody 15 (b_law F F1)
noncomputable def sem : Nat → Fi → Fn
  | 0 => fun _ _ _ => .bad
  | 1 => fun _ _ _ => .bad
  | n + 2 => disp (sem (n + 1)) (sem n)
theorem sem_size_of (n : Nat) : sem (n + 2) .size_of = runBody 2 (b_size_of (sem (n + 1)) (sem n)) := rfl
theorem sem_Heap_init (n : Nat) : sem (n + 2) .Heap_init = runBody 2 (b_Heap_init (sem (n + 1)) (sem n)) := rfl
theorem sem_Heap_make (n : Nat) : sem (n + 2) .Heap_make = runBody 3 (b_Heap_make (sem (n + 1)) (sem n)) := rfl
theorem sem_Heap_cell (n : Nat) : sem (n + 2) .Heap_cell = runBody 2 (b_Heap_cell (sem (n + 1)) (sem n)) := rfl
theorem sem_Heap_put (n : Nat) : sem (n + 2) .Heap_put = runBody 3 (b_Heap_put (sem (n + 1)) (sem n)) := rfl
theorem sem_Heap_fits (n : Nat) : sem (n + 2) .Heap_fits = runBody 2 (b_Heap_fits (sem (n + 1)) (sem n)) := rfl
theorem sem_operand_word (n : Nat) : sem (n + 2) .operand_word = runBody 2 (b_operand_word (sem (n + 1)) (sem n)) := rfl
theorem sem_operand_words (n : Nat) : sem (n + 2) .operand_words = runBody 3 (b_operand_words (sem (n + 1)) (sem n)) := rfl
theorem sem_delayed_size (n : Nat) : sem (n + 2) .delayed_size = runBody 1 (b_delayed_size (sem (n + 1)) (sem n)) := rfl
theorem sem_body_size (n : Nat) : sem (n + 2) .body_size = runBody 2 (b_body_size (sem (n + 1)) (sem n)) := rfl
theorem sem_arithmetic (n : Nat) : sem (n + 2) .arithmetic = runBody 3 (b_arithmetic (sem (n + 1)) (sem n)) := rfl
theorem sem_compared (n : Nat) : sem (n + 2) .compared = runBody 3 (b_compared (sem (n + 1)) (sem n)) := rfl
theorem sem_chosen_case (n : Nat) : sem (n + 2) .chosen_case = runBody 5 (b_chosen_case (sem (n + 1)) (sem n)) := rfl
theorem sem_chosen_pick (n : Nat) : sem (n + 2) .chosen_pick = runBody 4 (b_chosen_pick (sem (n + 1)) (sem n)) := rfl
theorem sem_Machine_init (n : Nat) : sem (n + 2) .Machine_init = runBody 6 (b_Machine_init (sem (n + 1)) (sem n)) := rfl
theorem sem_Machine_stopped (n : Nat) : sem (n + 2) .Machine_stopped = runBody 1 (b_Machine_stopped (sem (n + 1)) (sem n)) := rfl
theorem sem_Machine_has_room (n : Nat) : sem (n + 2) .Machine_has_room = runBody 2 (b_Machine_has_room (sem (n + 1)) (sem n)) := rfl
theorem sem_Machine_step (n : Nat) : sem (n + 2) .Machine_step = runBody 1 (b_Machine_step (sem (n + 1)) (sem n)) := rfl
theorem sem_Machine_enter (n : Nat) : sem (n + 2) .Machine_enter = runBody 3 (b_Machine_enter (sem (n + 1)) (sem n)) := rfl
theorem sem_Machine_make (n : Nat) : sem (n + 2) .Machine_make = runBody 2 (b_Machine_make (sem (n + 1)) (sem n)) := rfl
theorem sem_Machine_make_members (n : Nat) : sem (n + 2) .Machine_make_members = runBody 6 (b_Machine_make_members (sem (n + 1)) (sem n)) := rfl
theorem sem_Machine_evaluate (n : Nat) : sem (n + 2) .Machine_evaluate = runBody 4 (b_Machine_evaluate (sem (n + 1)) (sem n)) := rfl
theorem sem_Machine_part_of (n : Nat) : sem (n + 2) .Machine_part_of = runBody 3 (b_Machine_part_of (sem (n + 1)) (sem n)) := rfl
theorem sem_Machine_meeting_size (n : Nat) : sem (n + 2) .Machine_meeting_size = runBody 5 (b_Machine_meeting_size (sem (n + 1)) (sem n)) := rfl
theorem sem_Machine_fault (n : Nat) : sem (n + 2) .Machine_fault = runBody 2 (b_Machine_fault (sem (n + 1)) (sem n)) := rfl
theorem sem_Machine_meet (n : Nat) : sem (n + 2) .Machine_meet = runBody 4 (b_Machine_meet (sem (n + 1)) (sem n)) := rfl
theorem sem_Machine_apply (n : Nat) : sem (n + 2) .Machine_apply = runBody 7 (b_Machine_apply (sem (n + 1)) (sem n)) := rfl
theorem sem_Machine_meet_number (n : Nat) : sem (n + 2) .Machine_meet_number = runBody 5 (b_Machine_meet_number (sem (n + 1)) (sem n)) := rfl
theorem sem_Machine_meet_second (n : Nat) : sem (n + 2) .Machine_meet_second = runBody 5 (b_Machine_meet_second (sem (n + 1)) (sem n)) := rfl
theorem sem_Machine_meet_default (n : Nat) : sem (n + 2) .Machine_meet_default = runBody 3 (b_Machine_meet_default (sem (n + 1)) (sem n)) := rfl
theorem sem_Machine_meet_constructor (n : Nat) : sem (n + 2) .Machine_meet_constructor = runBody 5 (b_Machine_meet_constructor (sem (n + 1)) (sem n)) := rfl
theorem sem_run_code (n : Nat) : sem (n + 2) .run_code = runBody 8 (b_run_code (sem (n + 1)) (sem n)) := rfl
theorem sem_l_draws (n : Nat) : sem (n + 2) .l_draws = runBody 8 (b_l_draws (sem (n + 1)) (sem n)) := rfl
theorem sem_l_next (n : Nat) : sem (n + 2) .l_next = runBody 2 (b_l_next (sem (n + 1)) (sem n)) := rfl
theorem sem_l_number (n : Nat) : sem (n + 2) .l_number = runBody 2 (b_l_number (sem (n + 1)) (sem n)) := rfl
theorem sem_l_term (n : Nat) : sem (n + 2) .l_term = runBody 5 (b_l_term (sem (n + 1)) (sem n)) := rfl
theorem sem_l_result (n : Nat) : sem (n + 2) .l_result = runBody 4 (b_l_result (sem (n + 1)) (sem n)) := rfl
theorem sem_law (n : Nat) : sem (n + 2) .law = runBody 15 (b_law (sem (n + 1)) (sem n)) := rfl
end Nk66

namespace Nk66
open PySem L2 Nd
abbrev s_frame_words : Stmt := top 1
abbrev s_now_words : Stmt := top 2
abbrev s_cell_words : Stmt := top 3
abbrev s_roots : Stmt := top 4
abbrev s_resolved : Stmt := top 5
abbrev s_Renumbering_init : Stmt := inClass (top 6) 0
abbrev s_Renumbering_meet : Stmt := inClass (top 6) 1
abbrev s_Renumbering_word : Stmt := inClass (top 6) 2
abbrev s_Renumbering_words : Stmt := inClass (top 6) 3
abbrev s_Renumbering_cell : Stmt := inClass (top 6) 4
abbrev s_Renumbering_frame : Stmt := inClass (top 6) 5
abbrev s_Renumbering_now : Stmt := inClass (top 6) 6
abbrev s_collect_cells : Stmt := top 7
abbrev s_size_of : Stmt := top 9
abbrev s_Heap_init : Stmt := inClass (top 10) 0
abbrev s_Heap_make : Stmt := inClass (top 10) 1
abbrev s_Heap_cell : Stmt := inClass (top 10) 2
abbrev s_Heap_put : Stmt := inClass (top 10) 3
abbrev s_Heap_addresses : Stmt := inClass (top 10) 4
abbrev s_Heap_cells : Stmt := inClass (top 10) 5
abbrev s_Heap_fits : Stmt := inClass (top 10) 6
abbrev s_Heap_renew : Stmt := inClass (top 10) 7
abbrev s_operand_word : Stmt := top 15
abbrev s_operand_words : Stmt := top 16
abbrev s_delayed_size : Stmt := top 17
abbrev s_body_size : Stmt := top 18
abbrev s_arithmetic : Stmt := top 19
abbrev s_compared : Stmt := top 20
abbrev s_chosen_case : Stmt := top 21
abbrev s_chosen_pick : Stmt := top 22
abbrev s_Machine_init : Stmt := inClass (top 23) 0
abbrev s_Machine_stopped : Stmt := inClass (top 23) 1
abbrev s_Machine_collect : Stmt := inClass (top 23) 2
abbrev s_Machine_has_room : Stmt := inClass (top 23) 3
abbrev s_Machine_step : Stmt := inClass (top 23) 4
abbrev s_Machine_enter : Stmt := inClass (top 23) 5
abbrev s_Machine_make : Stmt := inClass (top 23) 6
abbrev s_Machine_make_members : Stmt := inClass (top 23) 7
abbrev s_Machine_evaluate : Stmt := inClass (top 23) 8
abbrev s_Machine_part_of : Stmt := inClass (top 23) 9
abbrev s_Machine_meeting_size : Stmt := inClass (top 23) 10
abbrev s_Machine_fault : Stmt := inClass (top 23) 11
abbrev s_Machine_meet : Stmt := inClass (top 23) 12
abbrev s_Machine_apply : Stmt := inClass (top 23) 13
abbrev s_Machine_meet_number : Stmt := inClass (top 23) 14
abbrev s_Machine_meet_second : Stmt := inClass (top 23) 15
abbrev s_Machine_meet_default : Stmt := inClass (top 23) 16
abbrev s_Machine_meet_constructor : Stmt := inClass (top 23) 17
abbrev s_run_code : Stmt := top 25
abbrev s_l_draws : Stmt := top 27
abbrev s_l_next : Stmt := top 28
abbrev s_l_number : Stmt := top 29
abbrev s_l_term : Stmt := top 30
abbrev s_l_result : Stmt := top 31
abbrev s_law : Stmt := top 32
theorem sc_size_of : FnScope ["cell", "kind"] ["cell"] (defScope s_size_of) := ⟨rfl, rfl, rfl, by decide +kernel, rfl, by decide +kernel, by decide +kernel⟩
theorem sc_Heap_init : FnScope ["self", "room"] ["self", "room"] (defScope s_Heap_init) := ⟨rfl, rfl, rfl, by decide +kernel, rfl, by decide +kernel, by decide +kernel⟩
theorem sc_Heap_make : FnScope ["self", "cell", "address"] ["self", "cell"] (defScope s_Heap_make) := ⟨rfl, rfl, rfl, by decide +kernel, rfl, by decide +kernel, by decide +kernel⟩
theorem sc_Heap_cell : FnScope ["self", "address"] ["self", "address"] (defScope s_Heap_cell) := ⟨rfl, rfl, rfl, by decide +kernel, rfl, by decide +kernel, by decide +kernel⟩
theorem sc_Heap_put : FnScope ["self", "address", "cell"] ["self", "address", "cell"] (defScope s_Heap_put) := ⟨rfl, rfl, rfl, by decide +kernel, rfl, by decide +kernel, by decide +kernel⟩
theorem sc_Heap_fits : FnScope ["self", "size"] ["self", "size"] (defScope s_Heap_fits) := ⟨rfl, rfl, rfl, by decide +kernel, rfl, by decide +kernel, by decide +kernel⟩
theorem sc_operand_word : FnScope ["operand", "words"] ["operand", "words"] (defScope s_operand_word) := ⟨rfl, rfl, rfl, by decide +kernel, rfl, by decide +kernel, by decide +kernel⟩
theorem sc_operand_words : FnScope ["operands", "words", "operand"] ["operands", "words"] (defScope s_operand_words) := ⟨rfl, rfl, rfl, by decide +kernel, rfl, by decide +kernel, by decide +kernel⟩
theorem sc_delayed_size : FnScope ["delayed"] ["delayed"] (defScope s_delayed_size) := ⟨rfl, rfl, rfl, by decide +kernel, rfl, by decide +kernel, by decide +kernel⟩
theorem sc_body_size : FnScope ["body", "delayed"] ["body"] (defScope s_body_size) := ⟨rfl, rfl, rfl, by decide +kernel, rfl, by decide +kernel, by decide +kernel⟩
theorem sc_arithmetic : FnScope ["sign", "left", "right"] ["sign", "left", "right"] (defScope s_arithmetic) := ⟨rfl, rfl, rfl, by decide +kernel, rfl, by decide +kernel, by decide +kernel⟩
theorem sc_compared : FnScope ["sign", "left", "right"] ["sign", "left", "right"] (defScope s_compared) := ⟨rfl, rfl, rfl, by decide +kernel, rfl, by decide +kernel, by decide +kernel⟩
theorem sc_chosen_case : FnScope ["cell", "alternatives", "tag", "count", "body"] ["cell", "alternatives"] (defScope s_chosen_case) := ⟨rfl, rfl, rfl, by decide +kernel, rfl, by decide +kernel, by decide +kernel⟩
theorem sc_chosen_pick : FnScope ["number", "alternatives", "value", "body"] ["number", "alternatives"] (defScope s_chosen_pick) := ⟨rfl, rfl, rfl, by decide +kernel, rfl, by decide +kernel, by decide +kernel⟩
theorem sc_Machine_init : FnScope ["self", "program", "room", "at", "arity", "body"] ["self", "program", "room"] (defScope s_Machine_init) := ⟨rfl, rfl, rfl, by decide +kernel, rfl, by decide +kernel, by decide +kernel⟩
theorem sc_Machine_stopped : FnScope ["self"] ["self"] (defScope s_Machine_stopped) := ⟨rfl, rfl, rfl, by decide +kernel, rfl, by decide +kernel, by decide +kernel⟩
theorem sc_Machine_has_room : FnScope ["self", "size"] ["self", "size"] (defScope s_Machine_has_room) := ⟨rfl, rfl, rfl, by decide +kernel, rfl, by decide +kernel, by decide +kernel⟩
theorem sc_Machine_step : FnScope ["self"] ["self"] (defScope s_Machine_step) := ⟨rfl, rfl, rfl, by decide +kernel, rfl, by decide +kernel, by decide +kernel⟩
theorem sc_Machine_enter : FnScope ["self", "word", "cell"] ["self", "word"] (defScope s_Machine_enter) := ⟨rfl, rfl, rfl, by decide +kernel, rfl, by decide +kernel, by decide +kernel⟩
theorem sc_Machine_make : FnScope ["self", "cell"] ["self", "cell"] (defScope s_Machine_make) := ⟨rfl, rfl, rfl, by decide +kernel, rfl, by decide +kernel, by decide +kernel⟩
theorem sc_Machine_make_members : FnScope ["self", "members", "words", "first", "member", "at"] ["self", "members", "words"] (defScope s_Machine_make_members) := ⟨rfl, rfl, rfl, by decide +kernel, rfl, by decide +kernel, by decide +kernel⟩
theorem sc_Machine_evaluate : FnScope ["self", "body", "words", "kind"] ["self", "body", "words"] (defScope s_Machine_evaluate) := ⟨rfl, rfl, rfl, by decide +kernel, rfl, by decide +kernel, by decide +kernel⟩
theorem sc_Machine_part_of : FnScope ["self", "word", "cell"] ["self", "word"] (defScope s_Machine_part_of) := ⟨rfl, rfl, rfl, by decide +kernel, rfl, by decide +kernel, by decide +kernel⟩
theorem sc_Machine_meeting_size : FnScope ["self", "frame", "word", "part", "many"] ["self"] (defScope s_Machine_meeting_size) := ⟨rfl, rfl, rfl, by decide +kernel, rfl, by decide +kernel, by decide +kernel⟩
theorem sc_Machine_fault : FnScope ["self", "text"] ["self", "text"] (defScope s_Machine_fault) := ⟨rfl, rfl, rfl, by decide +kernel, rfl, by decide +kernel, by decide +kernel⟩
theorem sc_Machine_meet : FnScope ["self", "word", "frame", "kind"] ["self", "word", "frame"] (defScope s_Machine_meet) := ⟨rfl, rfl, rfl, by decide +kernel, rfl, by decide +kernel, by decide +kernel⟩
theorem sc_Machine_apply : FnScope ["self", "word", "args", "part", "arity", "body", "words"] ["self", "word", "args"] (defScope s_Machine_apply) := ⟨rfl, rfl, rfl, by decide +kernel, rfl, by decide +kernel, by decide +kernel⟩
theorem sc_Machine_meet_number : FnScope ["self", "number", "frame", "kind", "body"] ["self", "number", "frame"] (defScope s_Machine_meet_number) := ⟨rfl, rfl, rfl, by decide +kernel, rfl, by decide +kernel, by decide +kernel⟩
theorem sc_Machine_meet_second : FnScope ["self", "sign", "left", "right", "result"] ["self", "sign", "left", "right"] (defScope s_Machine_meet_second) := ⟨rfl, rfl, rfl, by decide +kernel, rfl, by decide +kernel, by decide +kernel⟩
theorem sc_Machine_meet_default : FnScope ["self", "word", "frame"] ["self", "word", "frame"] (defScope s_Machine_meet_default) := ⟨rfl, rfl, rfl, by decide +kernel, rfl, by decide +kernel, by decide +kernel⟩
theorem sc_Machine_meet_constructor : FnScope ["self", "word", "cell", "frame", "body"] ["self", "word", "cell", "frame"] (defScope s_Machine_meet_constructor) := ⟨rfl, rfl, rfl, by decide +kernel, rfl, by decide +kernel, by decide +kernel⟩
theorem sc_run_code : FnScope ["program", "room", "schedule", "steps", "machine", "planned", "at", "state"] ["program", "room", "schedule", "steps"] (defScope s_run_code) := ⟨rfl, rfl, rfl, by decide +kernel, rfl, by decide +kernel, by decide +kernel⟩
theorem sc_l_draws : FnScope ["_law_script", "_law_many", "_law_draws_here", "_law_mixed", "_law_k", "_law_cell", "_law_rest", "_law_turn"] ["_law_script", "_law_many"] (defScope s_l_draws) := ⟨rfl, rfl, rfl, by decide +kernel, rfl, by decide +kernel, by decide +kernel⟩
theorem sc_l_next : FnScope ["_law_w", "_law_many"] ["_law_w", "_law_many"] (defScope s_l_next) := ⟨rfl, rfl, rfl, by decide +kernel, rfl, by decide +kernel, by decide +kernel⟩
theorem sc_l_number : FnScope ["_law_w", "_law_turn"] ["_law_w"] (defScope s_l_number) := ⟨rfl, rfl, rfl, by decide +kernel, rfl, by decide +kernel, by decide +kernel⟩
theorem sc_l_term : FnScope ["_law_sign", "_law_left", "_law_right", "_law_term_here", "_law_rows"] ["_law_sign", "_law_left", "_law_right"] (defScope s_l_term) := ⟨rfl, rfl, rfl, by decide +kernel, rfl, by decide +kernel, by decide +kernel⟩
theorem sc_l_result : FnScope ["_law_sign", "_law_left", "_law_right", "_law_result_here"] ["_law_sign", "_law_left", "_law_right"] (defScope s_l_result) := ⟨rfl, rfl, rfl, by decide +kernel, rfl, by decide +kernel, by decide +kernel⟩
theorem sc_law : FnScope ["_law_script", "_law_w", "_law_body", "_law_expected", "_law_k", "_law_sign", "_law_left", "_law_right", "_law_shown", "_law_event", "_law_events", "_law_state", "_law_entered", "_law_collections", "_law_last"] ["_law_script"] (defScope s_law) := ⟨rfl, rfl, rfl, by decide +kernel, rfl, by decide +kernel, by decide +kernel⟩
def psOf : Fi → List Str
  | .frame_words => ["frame"]
  | .now_words => ["now"]
  | .cell_words => ["cell"]
  | .roots => ["global_count", "stack", "now"]
  | .resolved => ["word", "cells"]
  | .Renumbering_init => ["self", "cells", "global_count"]
  | .Renumbering_meet => ["self", "word"]
  | .Renumbering_word => ["self", "word"]
  | .Renumbering_words => ["self", "words"]
  | .Renumbering_cell => ["self", "cell"]
  | .Renumbering_frame => ["self", "frame"]
  | .Renumbering_now => ["self", "now"]
  | .collect_cells => ["cells", "global_count", "stack", "now"]
  | .size_of => ["cell"]
  | .Heap_init => ["self", "room"]
  | .Heap_make => ["self", "cell"]
  | .Heap_cell => ["self", "address"]
  | .Heap_put => ["self", "address", "cell"]
  | .Heap_addresses => ["self"]
  | .Heap_cells => ["self"]
  | .Heap_fits => ["self", "size"]
  | .Heap_renew => ["self", "cells", "next_address"]
  | .operand_word => ["operand", "words"]
  | .operand_words => ["operands", "words"]
  | .delayed_size => ["delayed"]
  | .body_size => ["body"]
  | .arithmetic => ["sign", "left", "right"]
  | .compared => ["sign", "left", "right"]
  | .chosen_case => ["cell", "alternatives"]
  | .chosen_pick => ["number", "alternatives"]
  | .Machine_init => ["self", "program", "room"]
  | .Machine_stopped => ["self"]
  | .Machine_collect => ["self"]
  | .Machine_has_room => ["self", "size"]
  | .Machine_step => ["self"]
  | .Machine_enter => ["self", "word"]
  | .Machine_make => ["self", "cell"]
  | .Machine_make_members => ["self", "members", "words"]
  | .Machine_evaluate => ["self", "body", "words"]
  | .Machine_part_of => ["self", "word"]
  | .Machine_meeting_size => ["self"]
  | .Machine_fault => ["self", "text"]
  | .Machine_meet => ["self", "word", "frame"]
  | .Machine_apply => ["self", "word", "args"]
  | .Machine_meet_number => ["self", "number", "frame"]
  | .Machine_meet_second => ["self", "sign", "left", "right"]
  | .Machine_meet_default => ["self", "word", "frame"]
  | .Machine_meet_constructor => ["self", "word", "cell", "frame"]
  | .run_code => ["program", "room", "schedule", "steps"]
  | .l_draws => ["_law_script", "_law_many"]
  | .l_next => ["_law_w", "_law_many"]
  | .l_number => ["_law_w"]
  | .l_term => ["_law_sign", "_law_left", "_law_right"]
  | .l_result => ["_law_sign", "_law_left", "_law_right"]
  | .law => ["_law_script"]
def npOf : Fi → Nat
  | .frame_words => 1
  | .now_words => 1
  | .cell_words => 1
  | .roots => 3
  | .resolved => 2
  | .Renumbering_init => 3
  | .Renumbering_meet => 2
  | .Renumbering_word => 2
  | .Renumbering_words => 2
  | .Renumbering_cell => 2
  | .Renumbering_frame => 2
  | .Renumbering_now => 2
  | .collect_cells => 4
  | .size_of => 1
  | .Heap_init => 2
  | .Heap_make => 2
  | .Heap_cell => 2
  | .Heap_put => 3
  | .Heap_addresses => 1
  | .Heap_cells => 1
  | .Heap_fits => 2
  | .Heap_renew => 3
  | .operand_word => 2
  | .operand_words => 2
  | .delayed_size => 1
  | .body_size => 1
  | .arithmetic => 3
  | .compared => 3
  | .chosen_case => 2
  | .chosen_pick => 2
  | .Machine_init => 3
  | .Machine_stopped => 1
  | .Machine_collect => 1
  | .Machine_has_room => 2
  | .Machine_step => 1
  | .Machine_enter => 2
  | .Machine_make => 2
  | .Machine_make_members => 3
  | .Machine_evaluate => 3
  | .Machine_part_of => 2
  | .Machine_meeting_size => 1
  | .Machine_fault => 2
  | .Machine_meet => 3
  | .Machine_apply => 3
  | .Machine_meet_number => 3
  | .Machine_meet_second => 4
  | .Machine_meet_default => 3
  | .Machine_meet_constructor => 4
  | .run_code => 4
  | .l_draws => 2
  | .l_next => 2
  | .l_number => 1
  | .l_term => 3
  | .l_result => 3
  | .law => 1
structure Txt (K : PySem.W.Frag) (mg : Str → Option Value) (CA : Nat → Addr) (fa pa : Fi → Addr) (fd : Fi → FuncData) : Prop where
  f_size_of : Fun K "size_of" "size_of" s_size_of (fa .size_of) (fd .size_of)
  b_size_of : Binds K (fd .size_of) ["cell"] []
  g_size_of : mg "size_of" = some (.ref (fa .size_of))
  f_Heap_init : Fun K "__init__" "Heap.__init__" s_Heap_init (fa .Heap_init) (fd .Heap_init)
  b_Heap_init : Binds K (fd .Heap_init) ["self", "room"] []
  f_Heap_make : Fun K "make" "Heap.make" s_Heap_make (fa .Heap_make) (fd .Heap_make)
  b_Heap_make : Binds K (fd .Heap_make) ["self", "cell"] []
  m_Heap_make : Meth K (CA 1) "make" (fa .Heap_make)
  f_Heap_cell : Fun K "cell" "Heap.cell" s_Heap_cell (fa .Heap_cell) (fd .Heap_cell)
  b_Heap_cell : Binds K (fd .Heap_cell) ["self", "address"] []
  m_Heap_cell : Meth K (CA 1) "cell" (fa .Heap_cell)
  f_Heap_put : Fun K "put" "Heap.put" s_Heap_put (fa .Heap_put) (fd .Heap_put)
  b_Heap_put : Binds K (fd .Heap_put) ["self", "address", "cell"] []
  m_Heap_put : Meth K (CA 1) "put" (fa .Heap_put)
  f_Heap_fits : Fun K "fits" "Heap.fits" s_Heap_fits (fa .Heap_fits) (fd .Heap_fits)
  b_Heap_fits : Binds K (fd .Heap_fits) ["self", "size"] []
  m_Heap_fits : Meth K (CA 1) "fits" (fa .Heap_fits)
  f_operand_word : Fun K "operand_word" "operand_word" s_operand_word (fa .operand_word) (fd .operand_word)
  b_operand_word : Binds K (fd .operand_word) ["operand", "words"] []
  g_operand_word : mg "operand_word" = some (.ref (fa .operand_word))
  f_operand_words : Fun K "operand_words" "operand_words" s_operand_words (fa .operand_words) (fd .operand_words)
  b_operand_words : Binds K (fd .operand_words) ["operands", "words"] []
  g_operand_words : mg "operand_words" = some (.ref (fa .operand_words))
  f_delayed_size : Fun K "delayed_size" "delayed_size" s_delayed_size (fa .delayed_size) (fd .delayed_size)
  b_delayed_size : Binds K (fd .delayed_size) ["delayed"] []
  g_delayed_size : mg "delayed_size" = some (.ref (fa .delayed_size))
  f_body_size : Fun K "body_size" "body_size" s_body_size (fa .body_size) (fd .body_size)
  b_body_size : Binds K (fd .body_size) ["body"] []
  g_body_size : mg "body_size" = some (.ref (fa .body_size))
  f_arithmetic : Fun K "arithmetic" "arithmetic" s_arithmetic (fa .arithmetic) (fd .arithmetic)
  b_arithmetic : Binds K (fd .arithmetic) ["sign", "left", "right"] []
  g_arithmetic : mg "arithmetic" = some (.ref (fa .arithmetic))
  f_compared : Fun K "compared" "compared" s_compared (fa .compared) (fd .compared)
  b_compared : Binds K (fd .compared) ["sign", "left", "right"] []
  g_compared : mg "compared" = some (.ref (fa .compared))
  f_chosen_case : Fun K "chosen_case" "chosen_case" s_chosen_case (fa .chosen_case) (fd .chosen_case)
  b_chosen_case : Binds K (fd .chosen_case) ["cell", "alternatives"] []
  g_chosen_case : mg "chosen_case" = some (.ref (fa .chosen_case))
  f_chosen_pick : Fun K "chosen_pick" "chosen_pick" s_chosen_pick (fa .chosen_pick) (fd .chosen_pick)
  b_chosen_pick : Binds K (fd .chosen_pick) ["number", "alternatives"] []
  g_chosen_pick : mg "chosen_pick" = some (.ref (fa .chosen_pick))
  f_Machine_init : Fun K "__init__" "Machine.__init__" s_Machine_init (fa .Machine_init) (fd .Machine_init)
  b_Machine_init : Binds K (fd .Machine_init) ["self", "program", "room"] []
  f_Machine_stopped : Fun K "stopped" "Machine.stopped" s_Machine_stopped (fa .Machine_stopped) (fd .Machine_stopped)
  b_Machine_stopped : Binds K (fd .Machine_stopped) ["self"] []
  p_Machine_stopped : PropOf K (CA 2) "stopped" (pa .Machine_stopped) (fa .Machine_stopped)
  f_Machine_collect : Fun K "collect" "Machine.collect" s_Machine_collect (fa .Machine_collect) (fd .Machine_collect)
  b_Machine_collect : Binds K (fd .Machine_collect) ["self"] []
  m_Machine_collect : Meth K (CA 2) "collect" (fa .Machine_collect)
  f_Machine_has_room : Fun K "has_room" "Machine.has_room" s_Machine_has_room (fa .Machine_has_room) (fd .Machine_has_room)
  b_Machine_has_room : Binds K (fd .Machine_has_room) ["self", "size"] []
  m_Machine_has_room : Meth K (CA 2) "has_room" (fa .Machine_has_room)
  f_Machine_step : Fun K "step" "Machine.step" s_Machine_step (fa .Machine_step) (fd .Machine_step)
  b_Machine_step : Binds K (fd .Machine_step) ["self"] []
  m_Machine_step : Meth K (CA 2) "step" (fa .Machine_step)
  f_Machine_enter : Fun K "enter" "Machine.enter" s_Machine_enter (fa .Machine_enter) (fd .Machine_enter)
  b_Machine_enter : Binds K (fd .Machine_enter) ["self", "word"] []
  m_Machine_enter : Meth K (CA 2) "enter" (fa .Machine_enter)
  f_Machine_make : Fun K "make" "Machine.make" s_Machine_make (fa .Machine_make) (fd .Machine_make)
  b_Machine_make : Binds K (fd .Machine_make) ["self", "cell"] []
  m_Machine_make : Meth K (CA 2) "make" (fa .Machine_make)
  f_Machine_make_members : Fun K "make_members" "Machine.make_members" s_Machine_make_members (fa .Machine_make_members) (fd .Machine_make_members)
  b_Machine_make_members : Binds K (fd .Machine_make_members) ["self", "members", "words"] []
  m_Machine_make_members : Meth K (CA 2) "make_members" (fa .Machine_make_members)
  f_Machine_evaluate : Fun K "evaluate" "Machine.evaluate" s_Machine_evaluate (fa .Machine_evaluate) (fd .Machine_evaluate)
  b_Machine_evaluate : Binds K (fd .Machine_evaluate) ["self", "body", "words"] []
  m_Machine_evaluate : Meth K (CA 2) "evaluate" (fa .Machine_evaluate)
  f_Machine_part_of : Fun K "part_of" "Machine.part_of" s_Machine_part_of (fa .Machine_part_of) (fd .Machine_part_of)
  b_Machine_part_of : Binds K (fd .Machine_part_of) ["self", "word"] []
  m_Machine_part_of : Meth K (CA 2) "part_of" (fa .Machine_part_of)
  f_Machine_meeting_size : Fun K "meeting_size" "Machine.meeting_size" s_Machine_meeting_size (fa .Machine_meeting_size) (fd .Machine_meeting_size)
  b_Machine_meeting_size : Binds K (fd .Machine_meeting_size) ["self"] []
  m_Machine_meeting_size : Meth K (CA 2) "meeting_size" (fa .Machine_meeting_size)
  f_Machine_fault : Fun K "fault" "Machine.fault" s_Machine_fault (fa .Machine_fault) (fd .Machine_fault)
  b_Machine_fault : Binds K (fd .Machine_fault) ["self", "text"] []
  m_Machine_fault : Meth K (CA 2) "fault" (fa .Machine_fault)
  f_Machine_meet : Fun K "meet" "Machine.meet" s_Machine_meet (fa .Machine_meet) (fd .Machine_meet)
  b_Machine_meet : Binds K (fd .Machine_meet) ["self", "word", "frame"] []
  m_Machine_meet : Meth K (CA 2) "meet" (fa .Machine_meet)
  f_Machine_apply : Fun K "apply" "Machine.apply" s_Machine_apply (fa .Machine_apply) (fd .Machine_apply)
  b_Machine_apply : Binds K (fd .Machine_apply) ["self", "word", "args"] []
  m_Machine_apply : Meth K (CA 2) "apply" (fa .Machine_apply)
  f_Machine_meet_number : Fun K "meet_number" "Machine.meet_number" s_Machine_meet_number (fa .Machine_meet_number) (fd .Machine_meet_number)
  b_Machine_meet_number : Binds K (fd .Machine_meet_number) ["self", "number", "frame"] []
  m_Machine_meet_number : Meth K (CA 2) "meet_number" (fa .Machine_meet_number)
  f_Machine_meet_second : Fun K "meet_second" "Machine.meet_second" s_Machine_meet_second (fa .Machine_meet_second) (fd .Machine_meet_second)
  b_Machine_meet_second : Binds K (fd .Machine_meet_second) ["self", "sign", "left", "right"] []
  m_Machine_meet_second : Meth K (CA 2) "meet_second" (fa .Machine_meet_second)
  f_Machine_meet_default : Fun K "meet_default" "Machine.meet_default" s_Machine_meet_default (fa .Machine_meet_default) (fd .Machine_meet_default)
  b_Machine_meet_default : Binds K (fd .Machine_meet_default) ["self", "word", "frame"] []
  m_Machine_meet_default : Meth K (CA 2) "meet_default" (fa .Machine_meet_default)
  f_Machine_meet_constructor : Fun K "meet_constructor" "Machine.meet_constructor" s_Machine_meet_constructor (fa .Machine_meet_constructor) (fd .Machine_meet_constructor)
  b_Machine_meet_constructor : Binds K (fd .Machine_meet_constructor) ["self", "word", "cell", "frame"] []
  m_Machine_meet_constructor : Meth K (CA 2) "meet_constructor" (fa .Machine_meet_constructor)
  f_run_code : Fun K "run_code" "run_code" s_run_code (fa .run_code) (fd .run_code)
  b_run_code : Binds K (fd .run_code) ["program", "room", "schedule", "steps"] []
  g_run_code : mg "run_code" = some (.ref (fa .run_code))
  f_l_draws : Fun K "_law_draws" "_law_draws" s_l_draws (fa .l_draws) (fd .l_draws)
  b_l_draws : Binds K (fd .l_draws) ["_law_script", "_law_many"] []
  g_l_draws : mg "_law_draws" = some (.ref (fa .l_draws))
  f_l_next : Fun K "_law_next" "_law_next" s_l_next (fa .l_next) (fd .l_next)
  b_l_next : Binds K (fd .l_next) ["_law_w", "_law_many"] []
  g_l_next : mg "_law_next" = some (.ref (fa .l_next))
  f_l_number : Fun K "_law_number" "_law_number" s_l_number (fa .l_number) (fd .l_number)
  b_l_number : Binds K (fd .l_number) ["_law_w"] []
  g_l_number : mg "_law_number" = some (.ref (fa .l_number))
  f_l_term : Fun K "_law_term" "_law_term" s_l_term (fa .l_term) (fd .l_term)
  b_l_term : Binds K (fd .l_term) ["_law_sign", "_law_left", "_law_right"] []
  g_l_term : mg "_law_term" = some (.ref (fa .l_term))
  f_l_result : Fun K "_law_result" "_law_result" s_l_result (fa .l_result) (fd .l_result)
  b_l_result : Binds K (fd .l_result) ["_law_sign", "_law_left", "_law_right"] []
  g_l_result : mg "_law_result" = some (.ref (fa .l_result))
  f_law : Fun K "law" "law" s_law (fa .law) (fd .law)
  b_law : Binds K (fd .law) ["_law_script"] []
  g_law : mg "law" = some (.ref (fa .law))
  c_Heap : Cls K (CA 1)
  gc_Heap : mg "Heap" = some (.ref (CA 1))
  mk_Heap : Mk K (CA 1) (fa .Heap_init)
  a_Heap__cells : NoAttr K (CA 1) "_cells"
  a_Heap_next_address : NoAttr K (CA 1) "next_address"
  a_Heap_room : NoAttr K (CA 1) "room"
  a_Heap_used : NoAttr K (CA 1) "used"
  c_Machine : Cls K (CA 2)
  gc_Machine : mg "Machine" = some (.ref (CA 2))
  mk_Machine : Mk K (CA 2) (fa .Machine_init)
  a_Machine_collections : NoAttr K (CA 2) "collections"
  a_Machine_entered : NoAttr K (CA 2) "entered"
  a_Machine_events : NoAttr K (CA 2) "events"
  a_Machine_functions : NoAttr K (CA 2) "functions"
  a_Machine_heap : NoAttr K (CA 2) "heap"
  a_Machine_now : NoAttr K (CA 2) "now"
  a_Machine_serial : NoAttr K (CA 2) "serial"
  a_Machine_stack : NoAttr K (CA 2) "stack"
  n_abs : mg "abs" = none
  n_enumerate : mg "enumerate" = none
  n_int : mg "int" = none
  n_len : mg "len" = none
  n_max : mg "max" = none
  n_range : mg "range" = none
  n_sum : mg "sum" = none
  n_tuple : mg "tuple" = none
  k_CONTAINERS : ∃ (a : Addr) (o : Obj) (its : Array Value) (n : Nat), mg "CONTAINERS" = some (.ref a) ∧ K.lookup a = some o ∧ o.cls = .type "tuple" ∧ o.data = .seq its n ∧ its.size ≤ sizeLine ∧ Vals [(.str "con"), (.str "part")] its.toList
  k_ENDS : ∃ (a : Addr) (o : Obj) (its : Array Value) (n : Nat), mg "ENDS" = some (.ref a) ∧ K.lookup a = some o ∧ o.cls = .type "tuple" ∧ o.data = .seq its n ∧ its.size ≤ sizeLine ∧ Vals [(.str "end"), (.str "fault"), (.str "loop"), (.str "full"), (.str "stuck")] its.toList
  k_LARGEST : ∃ u, mg "LARGEST" = some u ∧ RelV (.int 1000000000000000) u
section
variable {P : Program} {w : World} {K : PySem.W.Frag} {mg : Str → Option Value} {base : Heap} {CA : Nat → Addr} {fa pa : Fi → Addr} {fd : Fi → FuncData}
theorem Txt.r_CONTAINERS (T : Txt K mg CA fa pa fd) (X : Cx) (hK : X.K = K) (hm : X.mg = mg) (hg : Gl X "CONTAINERS") {CA : Nat → Addr} {pos : Pos} : PE X (.Name "CONTAINERS" pos) (liE X.K CA (mC K_CONTAINERS)) := by
  subst hK hm
  obtain ⟨a, o, its, n, h1, h2, h3, h4, h5, h6⟩ := T.k_CONTAINERS
  exact re_glob hg h1 (v := .ref a) rfl fun ι N H => .tup (.inr ⟨o, its, n, h2, h3, h4, h5, h6⟩) (.cons (.str _) (.cons (.str _) .nil))
theorem Txt.r_ENDS (T : Txt K mg CA fa pa fd) (X : Cx) (hK : X.K = K) (hm : X.mg = mg) (hg : Gl X "ENDS") {CA : Nat → Addr} {pos : Pos} : PE X (.Name "ENDS" pos) (liE X.K CA (mC K_ENDS)) := by
  subst hK hm
  obtain ⟨a, o, its, n, h1, h2, h3, h4, h5, h6⟩ := T.k_ENDS
  exact re_glob hg h1 (v := .ref a) rfl fun ι N H => .tup (.inr ⟨o, its, n, h2, h3, h4, h5, h6⟩) (.cons (.str _) (.cons (.str _) (.cons (.str _) (.cons (.str _) (.cons (.str _) .nil)))))
theorem Txt.r_LARGEST (T : Txt K mg CA fa pa fd) (X : Cx) (hK : X.K = K) (hm : X.mg = mg) (hg : Gl X "LARGEST") {CA : Nat → Addr} {pos : Pos} : PE X (.Name "LARGEST" pos) (liE X.K CA (mC K_LARGEST)) := by
  subst hK hm
  obtain ⟨u, h1, h2⟩ := T.k_LARGEST
  exact re_glob hg h1 h2 fun ι N H => .int _
abbrev AllOk (P : Program) (w : World) (K : PySem.W.Frag) (mg : Str → Option Value) (base : Heap) (CA : Nat → Addr) (fa : Fi → Addr) (fd : Fi → FuncData) (n : Nat) : Prop := ∀ i, FnOk P w K mg base CX0 n (fa i) (fd i) (psOf i) (spF K CA (npOf i) (sem n i))
end
end Nk66

namespace Nk66
open PySem L2 Nd
section
variable {P : Program} {w : World} {K : PySem.W.Frag} {mg : Str → Option Value} {base : Heap} {CA : Nat → Addr} {fa pa : Fi → Addr} {fd : Fi → FuncData}
theorem v0_size_of {X : Cx} {CA : Nat → Addr} {pos : Pos} (hn : X.N[0]? = some ("cell" : Str)) (hsc : X.env.scope = defScope s_size_of) : PE X (.Name "cell" pos) (liE X.K CA (mVar 0)) := re_var hn (visS hsc (by decide +kernel))
theorem v1_size_of {X : Cx} {CA : Nat → Addr} {pos : Pos} (hn : X.N[1]? = some ("kind" : Str)) (hsc : X.env.scope = defScope s_size_of) : PE X (.Name "kind" pos) (liE X.K CA (mVar 1)) := re_var hn (visS hsc (by decide +kernel))
theorem gl_len_size_of {X : Cx} (hsc : X.env.scope = defScope s_size_of) : Gl X "len" := glS hsc (by decide +kernel)
theorem gl_max_size_of {X : Cx} (hsc : X.env.scope = defScope s_size_of) : Gl X "max" := glS hsc (by decide +kernel)
theorem lc_1_size_of {X : Cx} (hsc : X.env.scope = defScope s_size_of) : L2.Loc X.env.scope "kind" := locS hsc (by decide +kernel)
theorem okb_size_of (T : Txt K mg CA fa pa fd) (n : Nat) (G : AllOk P w K mg base CA fa fd (n + 1)) (G1 : AllOk P w K mg base CA fa fd n) : FnOk P w K mg base CX0 (n + 2) (fa .size_of) (fd .size_of) ["cell"] (spF K CA 1 (runBody (List.length (["cell", "kind"] : List Str)) (b_size_of (sem (n + 1)) (sem n)))) := by
  refine def_ok (st := s_size_of) (Ns := ["cell", "kind"]) (ps := ["cell"]) (np := 1) (k := n + 1) (m := b_size_of (sem (n + 1)) (sem n)) T.f_size_of sc_size_of rfl fun X hP hw hK hmg hbase hN hsc hc hfn hr hpo => ?_
  subst hP hw hK hmg hbase
  have hnd : X.N.Nodup := by rw [hN]; exact sc_size_of.nd
  have n0 : X.N[0]? = some ("cell" : Str) := by rw [hN]; rfl
  have n1 : X.N[1]? = some ("kind" : Str) := by rw [hN]; rfl
  exact (rss_cons (rs_set hnd n1 (lc_1_size_of hsc) (re_ix (ix_all (hu_of hr)) sim_ix (v0_size_of n0 hsc) re_int (fun _ _ => rfl)) (hf := .inl (hfn _)))
  (rss_cons (rs_if (rt_w (rw_or (rt_cmp (op_eqAll hr.units) sim_eq (v1_size_of n1 hsc) re_str (nomark _)) (rw_or1 (rt_cmp (op_eqAll hr.units) sim_eq (v1_size_of n1 hsc) re_str (nomark _))))) (rss_one (rs_ret re_int)) rss_nil)
  (rss_cons (rs_if (rt_cmp (op_eqAll hr.units) sim_eq (v1_size_of n1 hsc) re_str (nomark _)) (rss_one (rs_ret (re_callB (call_max2 hc) sim_max (gl_max_size_of hsc) T.n_max (by decide +kernel) (ra_cons re_int (ra_cons (re_op op_addAll sim_add re_int (re_callB call_lenAll sim_len (gl_len_size_of hsc) T.n_len (by decide +kernel) (ra_cons (re_ix (ix_all (hu_of hr)) sim_ix (v0_size_of n0 hsc) re_int (fun _ _ => rfl)) ra_nil))) ra_nil))))) rss_nil)
  (rss_one (rs_ret (re_op op_addAll sim_add re_int (re_callB call_lenAll sim_len (gl_len_size_of hsc) T.n_len (by decide +kernel) (ra_cons (re_ix (ix_all (hu_of hr)) sim_ix (v0_size_of n0 hsc) re_int (fun _ _ => rfl)) ra_nil))))))))
theorem ok_size_of (T : Txt K mg CA fa pa fd) (n : Nat) (G : AllOk P w K mg base CA fa fd (n + 1)) (G1 : AllOk P w K mg base CA fa fd n) : FnOk P w K mg base CX0 (n + 2) (fa .size_of) (fd .size_of) (psOf .size_of) (spF K CA (npOf .size_of) (sem (n + 2) .size_of)) := by
  rw [sem_size_of]
  exact okb_size_of T n G G1
theorem v0_operand_word {X : Cx} {CA : Nat → Addr} {pos : Pos} (hn : X.N[0]? = some ("operand" : Str)) (hsc : X.env.scope = defScope s_operand_word) : PE X (.Name "operand" pos) (liE X.K CA (mVar 0)) := re_var hn (visS hsc (by decide +kernel))
theorem v1_operand_word {X : Cx} {CA : Nat → Addr} {pos : Pos} (hn : X.N[1]? = some ("words" : Str)) (hsc : X.env.scope = defScope s_operand_word) : PE X (.Name "words" pos) (liE X.K CA (mVar 1)) := re_var hn (visS hsc (by decide +kernel))
theorem okb_operand_word (T : Txt K mg CA fa pa fd) (n : Nat) (G : AllOk P w K mg base CA fa fd (n + 1)) (G1 : AllOk P w K mg base CA fa fd n) : FnOk P w K mg base CX0 (n + 2) (fa .operand_word) (fd .operand_word) ["operand", "words"] (spF K CA 2 (runBody (List.length (["operand", "words"] : List Str)) (b_operand_word (sem (n + 1)) (sem n)))) := by
  refine def_ok (st := s_operand_word) (Ns := ["operand", "words"]) (ps := ["operand", "words"]) (np := 2) (k := n + 1) (m := b_operand_word (sem (n + 1)) (sem n)) T.f_operand_word sc_operand_word rfl fun X hP hw hK hmg hbase hN hsc hc hfn hr hpo => ?_
  subst hP hw hK hmg hbase
  have hnd : X.N.Nodup := by rw [hN]; exact sc_operand_word.nd
  have n0 : X.N[0]? = some ("operand" : Str) := by rw [hN]; rfl
  have n1 : X.N[1]? = some ("words" : Str) := by rw [hN]; rfl
  exact (rss_cons (rs_if (rt_cmp (op_eqAll hr.units) sim_eq (re_ix (ix_all (hu_of hr)) sim_ix (v0_operand_word n0 hsc) re_int (fun _ _ => rfl)) re_str (nomark _)) (rss_one (rs_ret (re_ix (ix_all (hu_of hr)) sim_ix (v1_operand_word n1 hsc) (re_ix (ix_all (hu_of hr)) sim_ix (v0_operand_word n0 hsc) re_int (fun _ _ => rfl)) (fun _ _ => rfl)))) rss_nil)
  (rss_cons (rs_if (rt_cmp (op_eqAll hr.units) sim_eq (re_ix (ix_all (hu_of hr)) sim_ix (v0_operand_word n0 hsc) re_int (fun _ _ => rfl)) re_str (nomark _)) (rss_one (rs_ret (re_op op_mul sim_mul re_int (re_ix (ix_all (hu_of hr)) sim_ix (v0_operand_word n0 hsc) re_int (fun _ _ => rfl))))) rss_nil)
  (rss_one (rs_ret (re_op op_addAll sim_add (re_op op_mul sim_mul re_int (re_ix (ix_all (hu_of hr)) sim_ix (v0_operand_word n0 hsc) re_int (fun _ _ => rfl))) re_int)))))
theorem ok_operand_word (T : Txt K mg CA fa pa fd) (n : Nat) (G : AllOk P w K mg base CA fa fd (n + 1)) (G1 : AllOk P w K mg base CA fa fd n) : FnOk P w K mg base CX0 (n + 2) (fa .operand_word) (fd .operand_word) (psOf .operand_word) (spF K CA (npOf .operand_word) (sem (n + 2) .operand_word)) := by
  rw [sem_operand_word]
  exact okb_operand_word T n G G1
theorem v0_chosen_case {X : Cx} {CA : Nat → Addr} {pos : Pos} (hn : X.N[0]? = some ("cell" : Str)) (hsc : X.env.scope = defScope s_chosen_case) : PE X (.Name "cell" pos) (liE X.K CA (mVar 0)) := re_var hn (visS hsc (by decide +kernel))
theorem v1_chosen_case {X : Cx} {CA : Nat → Addr} {pos : Pos} (hn : X.N[1]? = some ("alternatives" : Str)) (hsc : X.env.scope = defScope s_chosen_case) : PE X (.Name "alternatives" pos) (liE X.K CA (mVar 1)) := re_var hn (visS hsc (by decide +kernel))
theorem v2_chosen_case {X : Cx} {CA : Nat → Addr} {pos : Pos} (hn : X.N[2]? = some ("tag" : Str)) (hsc : X.env.scope = defScope s_chosen_case) : PE X (.Name "tag" pos) (liE X.K CA (mVar 2)) := re_var hn (visS hsc (by decide +kernel))
theorem v3_chosen_case {X : Cx} {CA : Nat → Addr} {pos : Pos} (hn : X.N[3]? = some ("count" : Str)) (hsc : X.env.scope = defScope s_chosen_case) : PE X (.Name "count" pos) (liE X.K CA (mVar 3)) := re_var hn (visS hsc (by decide +kernel))
theorem v4_chosen_case {X : Cx} {CA : Nat → Addr} {pos : Pos} (hn : X.N[4]? = some ("body" : Str)) (hsc : X.env.scope = defScope s_chosen_case) : PE X (.Name "body" pos) (liE X.K CA (mVar 4)) := re_var hn (visS hsc (by decide +kernel))
theorem gl_len_chosen_case {X : Cx} (hsc : X.env.scope = defScope s_chosen_case) : Gl X "len" := glS hsc (by decide +kernel)
theorem lc_4_chosen_case {X : Cx} (hsc : X.env.scope = defScope s_chosen_case) : L2.Loc X.env.scope "body" := locS hsc (by decide +kernel)
theorem lc_3_chosen_case {X : Cx} (hsc : X.env.scope = defScope s_chosen_case) : L2.Loc X.env.scope "count" := locS hsc (by decide +kernel)
theorem lc_2_chosen_case {X : Cx} (hsc : X.env.scope = defScope s_chosen_case) : L2.Loc X.env.scope "tag" := locS hsc (by decide +kernel)
theorem okb_chosen_case (T : Txt K mg CA fa pa fd) (n : Nat) (G : AllOk P w K mg base CA fa fd (n + 1)) (G1 : AllOk P w K mg base CA fa fd n) : FnOk P w K mg base CX0 (n + 2) (fa .chosen_case) (fd .chosen_case) ["cell", "alternatives"] (spF K CA 2 (runBody (List.length (["cell", "alternatives", "tag", "count", "body"] : List Str)) (b_chosen_case (sem (n + 1)) (sem n)))) := by
  refine def_ok (st := s_chosen_case) (Ns := ["cell", "alternatives", "tag", "count", "body"]) (ps := ["cell", "alternatives"]) (np := 2) (k := n + 1) (m := b_chosen_case (sem (n + 1)) (sem n)) T.f_chosen_case sc_chosen_case rfl fun X hP hw hK hmg hbase hN hsc hc hfn hr hpo => ?_
  subst hP hw hK hmg hbase
  have hnd : X.N.Nodup := by rw [hN]; exact sc_chosen_case.nd
  have n0 : X.N[0]? = some ("cell" : Str) := by rw [hN]; rfl
  have n1 : X.N[1]? = some ("alternatives" : Str) := by rw [hN]; rfl
  have n2 : X.N[2]? = some ("tag" : Str) := by rw [hN]; rfl
  have n3 : X.N[3]? = some ("count" : Str) := by rw [hN]; rfl
  have n4 : X.N[4]? = some ("body" : Str) := by rw [hN]; rfl
  exact (rss_cons (rs_for hpo hc (ri_seq (v1_chosen_case n1 hsc)) (pt_tup hc (pts'_cons (pt_name hnd n2 (lc_2_chosen_case hsc) (.inl (hfn _))) (pts'_cons (pt_name hnd n3 (lc_3_chosen_case hsc) (.inl (hfn _))) (pts'_cons (pt_name hnd n4 (lc_4_chosen_case hsc) (.inl (hfn _))) pts'_nil))) rfl) (rss_one (rs_if (rt_w (rw_and (rt_cmp (op_eqAll hr.units) sim_eq (v2_chosen_case n2 hsc) (re_ix (ix_all (hu_of hr)) sim_ix (v0_chosen_case n0 hsc) re_int (fun _ _ => rfl)) (nomark _)) (rw_and1 (rt_cmp (op_eqAll hr.units) sim_eq (v3_chosen_case n3 hsc) (re_callB call_lenAll sim_len (gl_len_chosen_case hsc) T.n_len (by decide +kernel) (ra_cons (re_ix (ix_all (hu_of hr)) sim_ix (v0_chosen_case n0 hsc) re_int (fun _ _ => rfl)) ra_nil)) (nomark _))))) (rss_one (rs_ret (v4_chosen_case n4 hsc))) rss_nil)))
  (rss_one (rs_ret re_non)))
theorem ok_chosen_case (T : Txt K mg CA fa pa fd) (n : Nat) (G : AllOk P w K mg base CA fa fd (n + 1)) (G1 : AllOk P w K mg base CA fa fd n) : FnOk P w K mg base CX0 (n + 2) (fa .chosen_case) (fd .chosen_case) (psOf .chosen_case) (spF K CA (npOf .chosen_case) (sem (n + 2) .chosen_case)) := by
  rw [sem_chosen_case]
  exact okb_chosen_case T n G G1
theorem v0_Machine_enter {X : Cx} {CA : Nat → Addr} {pos : Pos} (hn : X.N[0]? = some ("self" : Str)) (hsc : X.env.scope = defScope s_Machine_enter) : PE X (.Name "self" pos) (liE X.K CA (mVar 0)) := re_var hn (visS hsc (by decide +kernel))
theorem v1_Machine_enter {X : Cx} {CA : Nat → Addr} {pos : Pos} (hn : X.N[1]? = some ("word" : Str)) (hsc : X.env.scope = defScope s_Machine_enter) : PE X (.Name "word" pos) (liE X.K CA (mVar 1)) := re_var hn (visS hsc (by decide +kernel))
theorem v2_Machine_enter {X : Cx} {CA : Nat → Addr} {pos : Pos} (hn : X.N[2]? = some ("cell" : Str)) (hsc : X.env.scope = defScope s_Machine_enter) : PE X (.Name "cell" pos) (liE X.K CA (mVar 2)) := re_var hn (visS hsc (by decide +kernel))
theorem gl_CONTAINERS_Machine_enter {X : Cx} (hsc : X.env.scope = defScope s_Machine_enter) : Gl X "CONTAINERS" := glS hsc (by decide +kernel)
theorem lc_2_Machine_enter {X : Cx} (hsc : X.env.scope = defScope s_Machine_enter) : L2.Loc X.env.scope "cell" := locS hsc (by decide +kernel)
theorem okb_Machine_enter (T : Txt K mg CA fa pa fd) (n : Nat) (G : AllOk P w K mg base CA fa fd (n + 1)) (G1 : AllOk P w K mg base CA fa fd n) : FnOk P w K mg base CX0 (n + 2) (fa .Machine_enter) (fd .Machine_enter) ["self", "word"] (spF K CA 2 (runBody (List.length (["self", "word", "cell"] : List Str)) (b_Machine_enter (sem (n + 1)) (sem n)))) := by
  refine def_ok (st := s_Machine_enter) (Ns := ["self", "word", "cell"]) (ps := ["self", "word"]) (np := 2) (k := n + 1) (m := b_Machine_enter (sem (n + 1)) (sem n)) T.f_Machine_enter sc_Machine_enter rfl fun X hP hw hK hmg hbase hN hsc hc hfn hr hpo => ?_
  subst hP hw hK hmg hbase
  have hnd : X.N.Nodup := by rw [hN]; exact sc_Machine_enter.nd
  have n0 : X.N[0]? = some ("self" : Str) := by rw [hN]; rfl
  have n1 : X.N[1]? = some ("word" : Str) := by rw [hN]; rfl
  have n2 : X.N[2]? = some ("cell" : Str) := by rw [hN]; rfl
  exact (rss_cons (rs_if (rt_cmp (op_eqAll hr.units) sim_eq (re_op op_modN sim_mod (v1_Machine_enter n1 hsc) re_int) re_int (nomark _)) (rss_cons (rs_fld T.c_Machine T.a_Machine_now (v0_Machine_enter n0 hsc) (re_tup (ra_cons re_str (ra_cons (v1_Machine_enter n1 hsc) ra_nil))))
  (rss_one rs_retN)) rss_nil)
  (rss_cons (rs_set hnd n2 (lc_2_Machine_enter hsc) (re_meth T.c_Heap T.m_Heap_cell (G .Heap_cell) hr T.b_Heap_cell rfl (mCons_len mNil_len) (re_fld T.c_Machine T.a_Machine_heap (v0_Machine_enter n0 hsc)) (ra_cons (re_op op_fdivG sim_div (v1_Machine_enter n1 hsc) re_int) ra_nil)) (hf := .inl (hfn _)))
  (rss_one (rs_if (rt_cmp (op_inAll (hu_of hr)) (sim_in _) (re_ix (ix_all (hu_of hr)) sim_ix (v2_Machine_enter n2 hsc) re_int (fun _ _ => rfl)) (T.r_CONTAINERS _ rfl rfl (gl_CONTAINERS_Machine_enter hsc)) (by rfl)) (rss_one (rs_fld T.c_Machine T.a_Machine_now (v0_Machine_enter n0 hsc) (re_tup (ra_cons re_str (ra_cons (v1_Machine_enter n1 hsc) ra_nil))))) (rss_one (rs_if (rt_cmp (op_eqAll hr.units) sim_eq (re_ix (ix_all (hu_of hr)) sim_ix (v2_Machine_enter n2 hsc) re_int (fun _ _ => rfl)) re_str (nomark _)) (rss_one (rs_fld T.c_Machine T.a_Machine_now (v0_Machine_enter n0 hsc) (re_tup (ra_cons re_str (ra_cons (re_ix (ix_all (hu_of hr)) sim_ix (v2_Machine_enter n2 hsc) re_int (fun _ _ => rfl)) ra_nil))))) (rss_one (rs_if (rt_cmp (op_eqAll hr.units) sim_eq (re_ix (ix_all (hu_of hr)) sim_ix (v2_Machine_enter n2 hsc) re_int (fun _ _ => rfl)) re_str (nomark _)) (rss_one (rs_fld T.c_Machine T.a_Machine_now (v0_Machine_enter n0 hsc) (re_tup (ra_cons re_str ra_nil)))) (rss_cons (rs_expr (re_meth T.c_Heap T.m_Heap_put (G .Heap_put) hr T.b_Heap_put rfl (mCons_len (mCons_len mNil_len)) (re_fld T.c_Machine T.a_Machine_heap (v0_Machine_enter n0 hsc)) (ra_cons (re_op op_fdivG sim_div (v1_Machine_enter n1 hsc) re_int) (ra_cons (re_tup (ra_cons re_str ra_nil)) ra_nil))))
  (rss_cons (rs_expr (re_bm PySem.F.slot_list_append PySem.F.type_list_append mt_append sim_append (re_fld T.c_Machine T.a_Machine_entered (v0_Machine_enter n0 hsc)) (ra_cons (re_ix (ix_all (hu_of hr)) sim_ix (v2_Machine_enter n2 hsc) re_int (fun _ _ => rfl)) ra_nil)))
  (rss_cons (rs_expr (re_bm PySem.F.slot_list_append PySem.F.type_list_append mt_append sim_append (re_fld T.c_Machine T.a_Machine_stack (v0_Machine_enter n0 hsc)) (ra_cons (re_tup (ra_cons re_str (ra_cons (re_op op_fdivG sim_div (v1_Machine_enter n1 hsc) re_int) ra_nil))) ra_nil)))
  (rss_one (rs_fld T.c_Machine T.a_Machine_now (v0_Machine_enter n0 hsc) (re_tup (ra_cons re_str (ra_cons (re_ix (ix_all (hu_of hr)) sim_ix (v2_Machine_enter n2 hsc) re_int (fun _ _ => rfl)) (ra_cons (re_ix (ix_all (hu_of hr)) sim_ix (v2_Machine_enter n2 hsc) re_int (fun _ _ => rfl)) ra_nil)))))))))))))))))
theorem ok_Machine_enter (T : Txt K mg CA fa pa fd) (n : Nat) (G : AllOk P w K mg base CA fa fd (n + 1)) (G1 : AllOk P w K mg base CA fa fd n) : FnOk P w K mg base CX0 (n + 2) (fa .Machine_enter) (fd .Machine_enter) (psOf .Machine_enter) (spF K CA (npOf .Machine_enter) (sem (n + 2) .Machine_enter)) := by
  rw [sem_Machine_enter]
  exact okb_Machine_enter T n G G1
theorem v0_Machine_fault {X : Cx} {CA : Nat → Addr} {pos : Pos} (hn : X.N[0]? = some ("self" : Str)) (hsc : X.env.scope = defScope s_Machine_fault) : PE X (.Name "self" pos) (liE X.K CA (mVar 0)) := re_var hn (visS hsc (by decide +kernel))
theorem v1_Machine_fault {X : Cx} {CA : Nat → Addr} {pos : Pos} (hn : X.N[1]? = some ("text" : Str)) (hsc : X.env.scope = defScope s_Machine_fault) : PE X (.Name "text" pos) (liE X.K CA (mVar 1)) := re_var hn (visS hsc (by decide +kernel))
theorem okb_Machine_fault (T : Txt K mg CA fa pa fd) (n : Nat) (G : AllOk P w K mg base CA fa fd (n + 1)) (G1 : AllOk P w K mg base CA fa fd n) : FnOk P w K mg base CX0 (n + 2) (fa .Machine_fault) (fd .Machine_fault) ["self", "text"] (spF K CA 2 (runBody (List.length (["self", "text"] : List Str)) (b_Machine_fault (sem (n + 1)) (sem n)))) := by
  refine def_ok (st := s_Machine_fault) (Ns := ["self", "text"]) (ps := ["self", "text"]) (np := 2) (k := n + 1) (m := b_Machine_fault (sem (n + 1)) (sem n)) T.f_Machine_fault sc_Machine_fault rfl fun X hP hw hK hmg hbase hN hsc hc hfn hr hpo => ?_
  subst hP hw hK hmg hbase
  have hnd : X.N.Nodup := by rw [hN]; exact sc_Machine_fault.nd
  have n0 : X.N[0]? = some ("self" : Str) := by rw [hN]; rfl
  have n1 : X.N[1]? = some ("text" : Str) := by rw [hN]; rfl
  exact (rss_cons (rs_expr (re_bm PySem.F.slot_list_append PySem.F.type_list_append mt_append sim_append (re_fld T.c_Machine T.a_Machine_events (v0_Machine_fault n0 hsc)) (ra_cons (re_tup (ra_cons re_str (ra_cons (v1_Machine_fault n1 hsc) ra_nil))) ra_nil)))
  (rss_one (rs_fld T.c_Machine T.a_Machine_now (v0_Machine_fault n0 hsc) (re_tup (ra_cons re_str (ra_cons (v1_Machine_fault n1 hsc) ra_nil))))))
theorem ok_Machine_fault (T : Txt K mg CA fa pa fd) (n : Nat) (G : AllOk P w K mg base CA fa fd (n + 1)) (G1 : AllOk P w K mg base CA fa fd n) : FnOk P w K mg base CX0 (n + 2) (fa .Machine_fault) (fd .Machine_fault) (psOf .Machine_fault) (spF K CA (npOf .Machine_fault) (sem (n + 2) .Machine_fault)) := by
  rw [sem_Machine_fault]
  exact okb_Machine_fault T n G G1
theorem v0_Machine_meet_constructor {X : Cx} {CA : Nat → Addr} {pos : Pos} (hn : X.N[0]? = some ("self" : Str)) (hsc : X.env.scope = defScope s_Machine_meet_constructor) : PE X (.Name "self" pos) (liE X.K CA (mVar 0)) := re_var hn (visS hsc (by decide +kernel))
theorem v1_Machine_meet_constructor {X : Cx} {CA : Nat → Addr} {pos : Pos} (hn : X.N[1]? = some ("word" : Str)) (hsc : X.env.scope = defScope s_Machine_meet_constructor) : PE X (.Name "word" pos) (liE X.K CA (mVar 1)) := re_var hn (visS hsc (by decide +kernel))
theorem v2_Machine_meet_constructor {X : Cx} {CA : Nat → Addr} {pos : Pos} (hn : X.N[2]? = some ("cell" : Str)) (hsc : X.env.scope = defScope s_Machine_meet_constructor) : PE X (.Name "cell" pos) (liE X.K CA (mVar 2)) := re_var hn (visS hsc (by decide +kernel))
theorem v3_Machine_meet_constructor {X : Cx} {CA : Nat → Addr} {pos : Pos} (hn : X.N[3]? = some ("frame" : Str)) (hsc : X.env.scope = defScope s_Machine_meet_constructor) : PE X (.Name "frame" pos) (liE X.K CA (mVar 3)) := re_var hn (visS hsc (by decide +kernel))
theorem v4_Machine_meet_constructor {X : Cx} {CA : Nat → Addr} {pos : Pos} (hn : X.N[4]? = some ("body" : Str)) (hsc : X.env.scope = defScope s_Machine_meet_constructor) : PE X (.Name "body" pos) (liE X.K CA (mVar 4)) := re_var hn (visS hsc (by decide +kernel))
theorem gl_chosen_case_Machine_meet_constructor {X : Cx} (hsc : X.env.scope = defScope s_Machine_meet_constructor) : Gl X "chosen_case" := glS hsc (by decide +kernel)
theorem gl_len_Machine_meet_constructor {X : Cx} (hsc : X.env.scope = defScope s_Machine_meet_constructor) : Gl X "len" := glS hsc (by decide +kernel)
theorem lc_4_Machine_meet_constructor {X : Cx} (hsc : X.env.scope = defScope s_Machine_meet_constructor) : L2.Loc X.env.scope "body" := locS hsc (by decide +kernel)
theorem okb_Machine_meet_constructor (T : Txt K mg CA fa pa fd) (n : Nat) (G : AllOk P w K mg base CA fa fd (n + 1)) (G1 : AllOk P w K mg base CA fa fd n) : FnOk P w K mg base CX0 (n + 2) (fa .Machine_meet_constructor) (fd .Machine_meet_constructor) ["self", "word", "cell", "frame"] (spF K CA 4 (runBody (List.length (["self", "word", "cell", "frame", "body"] : List Str)) (b_Machine_meet_constructor (sem (n + 1)) (sem n)))) := by
  refine def_ok (st := s_Machine_meet_constructor) (Ns := ["self", "word", "cell", "frame", "body"]) (ps := ["self", "word", "cell", "frame"]) (np := 4) (k := n + 1) (m := b_Machine_meet_constructor (sem (n + 1)) (sem n)) T.f_Machine_meet_constructor sc_Machine_meet_constructor rfl fun X hP hw hK hmg hbase hN hsc hc hfn hr hpo => ?_
  subst hP hw hK hmg hbase
  have hnd : X.N.Nodup := by rw [hN]; exact sc_Machine_meet_constructor.nd
  have n0 : X.N[0]? = some ("self" : Str) := by rw [hN]; rfl
  have n1 : X.N[1]? = some ("word" : Str) := by rw [hN]; rfl
  have n2 : X.N[2]? = some ("cell" : Str) := by rw [hN]; rfl
  have n3 : X.N[3]? = some ("frame" : Str) := by rw [hN]; rfl
  have n4 : X.N[4]? = some ("body" : Str) := by rw [hN]; rfl
  exact (rss_one (rs_if (rt_cmp (op_eqAll hr.units) sim_eq (re_ix (ix_all (hu_of hr)) sim_ix (v3_Machine_meet_constructor n3 hsc) re_int (fun _ _ => rfl)) re_str (nomark _)) (rss_cons (rs_set hnd n4 (lc_4_Machine_meet_constructor hsc) (re_call (G .chosen_case) hr (gl_chosen_case_Machine_meet_constructor hsc) T.g_chosen_case T.f_chosen_case.kp T.b_chosen_case rfl (mCons_len (mCons_len mNil_len)) (ra_cons (v2_Machine_meet_constructor n2 hsc) (ra_cons (re_ix (ix_all (hu_of hr)) sim_ix (v3_Machine_meet_constructor n3 hsc) re_int (fun _ _ => rfl)) ra_nil))) (hf := .inl (hfn _)))
  (rss_one (rs_if (rt_cmp op_notN sim_notN (v4_Machine_meet_constructor n4 hsc) re_non (nomark _)) (rss_one (rs_fld T.c_Machine T.a_Machine_now (v0_Machine_meet_constructor n0 hsc) (re_tup (ra_cons re_str (ra_cons (v4_Machine_meet_constructor n4 hsc) (ra_cons (re_op op_addAll sim_add (re_ix (ix_all (hu_of hr)) sim_ix (v3_Machine_meet_constructor n3 hsc) re_int (fun _ _ => rfl)) (re_ix (ix_all (hu_of hr)) sim_ix (v2_Machine_meet_constructor n2 hsc) re_int (fun _ _ => rfl))) ra_nil)))))) (rss_one (rs_expr (re_meth T.c_Machine T.m_Machine_meet_default (G .Machine_meet_default) hr T.b_Machine_meet_default rfl (mCons_len (mCons_len mNil_len)) (v0_Machine_meet_constructor n0 hsc) (ra_cons (v1_Machine_meet_constructor n1 hsc) (ra_cons (v3_Machine_meet_constructor n3 hsc) ra_nil)))))))) (rss_one (rs_if (rt_w (rw_and (rt_cmp (op_eqAll hr.units) sim_eq (re_ix (ix_all (hu_of hr)) sim_ix (v3_Machine_meet_constructor n3 hsc) re_int (fun _ _ => rfl)) re_str (nomark _)) (rw_and1 (rt_cmp (op_eqAll hr.units) sim_eq (re_ix (ix_all (hu_of hr)) sim_ix (v2_Machine_meet_constructor n2 hsc) re_int (fun _ _ => rfl)) re_int (nomark _))))) (rss_cons (rs_expr (re_bm PySem.F.slot_list_append PySem.F.type_list_append mt_append sim_append (re_fld T.c_Machine T.a_Machine_events (v0_Machine_meet_constructor n0 hsc)) (ra_cons (re_tup (ra_cons re_str ra_nil)) ra_nil)))
  (rss_one (rs_fld T.c_Machine T.a_Machine_now (v0_Machine_meet_constructor n0 hsc) (re_tup (ra_cons re_str ra_nil))))) (rss_one (rs_if (rt_w (rw_and (rt_cmp (op_eqAll hr.units) sim_eq (re_ix (ix_all (hu_of hr)) sim_ix (v3_Machine_meet_constructor n3 hsc) re_int (fun _ _ => rfl)) re_str (nomark _)) (rw_and (rt_cmp (op_eqAll hr.units) sim_eq (re_ix (ix_all (hu_of hr)) sim_ix (v2_Machine_meet_constructor n2 hsc) re_int (fun _ _ => rfl)) re_int (nomark _)) (rw_and1 (rt_cmp (op_eqAll hr.units) sim_eq (re_callB call_lenAll sim_len (gl_len_Machine_meet_constructor hsc) T.n_len (by decide +kernel) (ra_cons (re_ix (ix_all (hu_of hr)) sim_ix (v2_Machine_meet_constructor n2 hsc) re_int (fun _ _ => rfl)) ra_nil)) re_int (nomark _)))))) (rss_cons (rs_expr (re_bm PySem.F.slot_list_append PySem.F.type_list_append mt_append sim_append (re_fld T.c_Machine T.a_Machine_stack (v0_Machine_meet_constructor n0 hsc)) (ra_cons (re_tup (ra_cons re_str (ra_cons (re_ix (ix_all (hu_of hr)) sim_ix (re_ix (ix_all (hu_of hr)) sim_ix (v2_Machine_meet_constructor n2 hsc) re_int (fun _ _ => rfl)) re_int (fun _ _ => rfl)) ra_nil))) ra_nil)))
  (rss_one (rs_fld T.c_Machine T.a_Machine_now (v0_Machine_meet_constructor n0 hsc) (re_tup (ra_cons re_str (ra_cons (re_ix (ix_all (hu_of hr)) sim_ix (re_ix (ix_all (hu_of hr)) sim_ix (v2_Machine_meet_constructor n2 hsc) re_int (fun _ _ => rfl)) re_int (fun _ _ => rfl)) ra_nil)))))) (rss_one (rs_fld T.c_Machine T.a_Machine_now (v0_Machine_meet_constructor n0 hsc) (re_tup (ra_cons re_str ra_nil))))))))))
theorem ok_Machine_meet_constructor (T : Txt K mg CA fa pa fd) (n : Nat) (G : AllOk P w K mg base CA fa fd (n + 1)) (G1 : AllOk P w K mg base CA fa fd n) : FnOk P w K mg base CX0 (n + 2) (fa .Machine_meet_constructor) (fd .Machine_meet_constructor) (psOf .Machine_meet_constructor) (spF K CA (npOf .Machine_meet_constructor) (sem (n + 2) .Machine_meet_constructor)) := by
  rw [sem_Machine_meet_constructor]
  exact okb_Machine_meet_constructor T n G G1
theorem v0_l_result {X : Cx} {CA : Nat → Addr} {pos : Pos} (hn : X.N[0]? = some ("_law_sign" : Str)) (hsc : X.env.scope = defScope s_l_result) : PE X (.Name "_law_sign" pos) (liE X.K CA (mVar 0)) := re_var hn (visS hsc (by decide +kernel))
theorem v1_l_result {X : Cx} {CA : Nat → Addr} {pos : Pos} (hn : X.N[1]? = some ("_law_left" : Str)) (hsc : X.env.scope = defScope s_l_result) : PE X (.Name "_law_left" pos) (liE X.K CA (mVar 1)) := re_var hn (visS hsc (by decide +kernel))
theorem v2_l_result {X : Cx} {CA : Nat → Addr} {pos : Pos} (hn : X.N[2]? = some ("_law_right" : Str)) (hsc : X.env.scope = defScope s_l_result) : PE X (.Name "_law_right" pos) (liE X.K CA (mVar 2)) := re_var hn (visS hsc (by decide +kernel))
theorem v3_l_result {X : Cx} {CA : Nat → Addr} {pos : Pos} (hn : X.N[3]? = some ("_law_result_here" : Str)) (hsc : X.env.scope = defScope s_l_result) : PE X (.Name "_law_result_here" pos) (liE X.K CA (mVar 3)) := re_var hn (visS hsc (by decide +kernel))
theorem gl_int_l_result {X : Cx} (hsc : X.env.scope = defScope s_l_result) : Gl X "int" := glS hsc (by decide +kernel)
theorem lc_3_l_result {X : Cx} (hsc : X.env.scope = defScope s_l_result) : L2.Loc X.env.scope "_law_result_here" := locS hsc (by decide +kernel)
theorem okb_l_result (T : Txt K mg CA fa pa fd) (n : Nat) (G : AllOk P w K mg base CA fa fd (n + 1)) (G1 : AllOk P w K mg base CA fa fd n) : FnOk P w K mg base CX0 (n + 2) (fa .l_result) (fd .l_result) ["_law_sign", "_law_left", "_law_right"] (spF K CA 3 (runBody (List.length (["_law_sign", "_law_left", "_law_right", "_law_result_here"] : List Str)) (b_l_result (sem (n + 1)) (sem n)))) := by
  refine def_ok (st := s_l_result) (Ns := ["_law_sign", "_law_left", "_law_right", "_law_result_here"]) (ps := ["_law_sign", "_law_left", "_law_right"]) (np := 3) (k := n + 1) (m := b_l_result (sem (n + 1)) (sem n)) T.f_l_result sc_l_result rfl fun X hP hw hK hmg hbase hN hsc hc hfn hr hpo => ?_
  subst hP hw hK hmg hbase
  have hnd : X.N.Nodup := by rw [hN]; exact sc_l_result.nd
  have n0 : X.N[0]? = some ("_law_sign" : Str) := by rw [hN]; rfl
  have n1 : X.N[1]? = some ("_law_left" : Str) := by rw [hN]; rfl
  have n2 : X.N[2]? = some ("_law_right" : Str) := by rw [hN]; rfl
  have n3 : X.N[3]? = some ("_law_result_here" : Str) := by rw [hN]; rfl
  exact (rss_cons (rs_if (rt_w (rw_and (rt_inL op_in_seq (v0_l_result n0 hsc) (rl_lst (ra_cons re_str (ra_cons re_str ra_nil))) (by rfl)) (rw_and1 (rt_cmp (op_eqAll hr.units) sim_eq (v2_l_result n2 hsc) re_int (nomark _))))) (rss_one (rs_ret (re_tup (ra_cons re_str (ra_cons re_str ra_nil))))) rss_nil)
  (rss_cons (rs_if (rt_cmp (op_eqAll hr.units) sim_eq (v0_l_result n0 hsc) re_str (nomark _)) (rss_one (rs_ret (re_tup (ra_cons re_str (ra_cons (re_callTy call_int1 sim_int (gl_int_l_result hsc) T.n_int (by decide +kernel) (ra_cons (re_cmp (op_eqAll hr.units) sim_eq (v1_l_result n1 hsc) (v2_l_result n2 hsc) (nomark _)) ra_nil)) ra_nil))))) rss_nil)
  (rss_cons (rs_if (rt_cmp (op_eqAll hr.units) sim_eq (v0_l_result n0 hsc) re_str (nomark _)) (rss_one (rs_ret (re_tup (ra_cons re_str (ra_cons (re_callTy call_int1 sim_int (gl_int_l_result hsc) T.n_int (by decide +kernel) (ra_cons (re_cmp op_lt (sim_cmp _) (v1_l_result n1 hsc) (v2_l_result n2 hsc) (nomark _)) ra_nil)) ra_nil))))) rss_nil)
  (rss_cons (rs_if (rt_cmp (op_eqAll hr.units) sim_eq (v0_l_result n0 hsc) re_str (nomark _)) (rss_one (rs_ret (re_tup (ra_cons re_str (ra_cons (re_callTy call_int1 sim_int (gl_int_l_result hsc) T.n_int (by decide +kernel) (ra_cons (re_cmp op_le (sim_cmp _) (v1_l_result n1 hsc) (v2_l_result n2 hsc) (nomark _)) ra_nil)) ra_nil))))) rss_nil)
  (rss_cons (rs_if (rt_cmp (op_eqAll hr.units) sim_eq (v0_l_result n0 hsc) re_str (nomark _)) (rss_one (rs_ret (re_tup (ra_cons re_str (ra_cons (re_op op_fdivG sim_div (v1_l_result n1 hsc) (v2_l_result n2 hsc)) ra_nil))))) rss_nil)
  (rss_cons (rs_set hnd n3 (lc_3_l_result hsc) (re_op op_addAll sim_add (v1_l_result n1 hsc) (v2_l_result n2 hsc)) (hf := .inl (hfn _)))
  (rss_cons (rs_if (rt_cmp (op_eqAll hr.units) sim_eq (v0_l_result n0 hsc) re_str (nomark _)) (rss_one (rs_set hnd n3 (lc_3_l_result hsc) (re_op op_sub sim_sub (v1_l_result n1 hsc) (v2_l_result n2 hsc)) (hf := .inl (hfn _)))) (rss_one (rs_if (rt_cmp (op_eqAll hr.units) sim_eq (v0_l_result n0 hsc) re_str (nomark _)) (rss_one (rs_set hnd n3 (lc_3_l_result hsc) (re_op op_mul sim_mul (v1_l_result n1 hsc) (v2_l_result n2 hsc)) (hf := .inl (hfn _)))) (rss_one (rs_if (rt_cmp (op_eqAll hr.units) sim_eq (v0_l_result n0 hsc) re_str (nomark _)) (rss_one (rs_set hnd n3 (lc_3_l_result hsc) (re_op op_sub sim_sub (v1_l_result n1 hsc) (re_op op_mul sim_mul (v2_l_result n2 hsc) (re_op op_fdivG sim_div (v1_l_result n1 hsc) (v2_l_result n2 hsc)))) (hf := .inl (hfn _)))) rss_nil)))))
  (rss_cons (rs_if (rt_w (rw_or (rt_cmp op_gt (sim_cmp _) (v3_l_result n3 hsc) (re_op op_pow sim_pow re_int re_int) (nomark _)) (rw_or1 (rt_cmp op_lt (sim_cmp _) (v3_l_result n3 hsc) (re_op op_sub sim_sub re_int (re_op op_pow sim_pow re_int re_int)) (nomark _))))) (rss_one (rs_ret (re_tup (ra_cons re_str (ra_cons re_str ra_nil))))) rss_nil)
  (rss_one (rs_ret (re_tup (ra_cons re_str (ra_cons (v3_l_result n3 hsc) ra_nil)))))))))))))
theorem ok_l_result (T : Txt K mg CA fa pa fd) (n : Nat) (G : AllOk P w K mg base CA fa fd (n + 1)) (G1 : AllOk P w K mg base CA fa fd n) : FnOk P w K mg base CX0 (n + 2) (fa .l_result) (fd .l_result) (psOf .l_result) (spF K CA (npOf .l_result) (sem (n + 2) .l_result)) := by
  rw [sem_l_result]
  exact okb_l_result T n G G1
end
end Nk66

namespace Nk66
open PySem L2 Nd
section
variable {P : Program} {w : World} {K : PySem.W.Frag} {mg : Str → Option Value} {base : Heap} {CA : Nat → Addr} {fa pa : Fi → Addr} {fd : Fi → FuncData}
theorem v0_Heap_init {X : Cx} {CA : Nat → Addr} {pos : Pos} (hn : X.N[0]? = some ("self" : Str)) (hsc : X.env.scope = defScope s_Heap_init) : PE X (.Name "self" pos) (liE X.K CA (mVar 0)) := re_var hn (visS hsc (by decide +kernel))
theorem v1_Heap_init {X : Cx} {CA : Nat → Addr} {pos : Pos} (hn : X.N[1]? = some ("room" : Str)) (hsc : X.env.scope = defScope s_Heap_init) : PE X (.Name "room" pos) (liE X.K CA (mVar 1)) := re_var hn (visS hsc (by decide +kernel))
theorem okb_Heap_init (T : Txt K mg CA fa pa fd) (n : Nat) (G : AllOk P w K mg base CA fa fd (n + 1)) (G1 : AllOk P w K mg base CA fa fd n) : FnOk P w K mg base CX0 (n + 2) (fa .Heap_init) (fd .Heap_init) ["self", "room"] (spF K CA 2 (runBody (List.length (["self", "room"] : List Str)) (b_Heap_init (sem (n + 1)) (sem n)))) := by
  refine def_ok (st := s_Heap_init) (Ns := ["self", "room"]) (ps := ["self", "room"]) (np := 2) (k := n + 1) (m := b_Heap_init (sem (n + 1)) (sem n)) T.f_Heap_init sc_Heap_init rfl fun X hP hw hK hmg hbase hN hsc hc hfn hr hpo => ?_
  subst hP hw hK hmg hbase
  have hnd : X.N.Nodup := by rw [hN]; exact sc_Heap_init.nd
  have n0 : X.N[0]? = some ("self" : Str) := by rw [hN]; rfl
  have n1 : X.N[1]? = some ("room" : Str) := by rw [hN]; rfl
  exact (rss_cons (rs_fld T.c_Heap T.a_Heap_room (v0_Heap_init n0 hsc) (v1_Heap_init n1 hsc))
  (rss_cons (rs_fld T.c_Heap T.a_Heap_used (v0_Heap_init n0 hsc) re_int)
  (rss_cons (rs_fld T.c_Heap T.a_Heap_next_address (v0_Heap_init n0 hsc) re_int)
  (rss_one (rs_fld T.c_Heap T.a_Heap__cells (v0_Heap_init n0 hsc) re_dict0)))))
theorem ok_Heap_init (T : Txt K mg CA fa pa fd) (n : Nat) (G : AllOk P w K mg base CA fa fd (n + 1)) (G1 : AllOk P w K mg base CA fa fd n) : FnOk P w K mg base CX0 (n + 2) (fa .Heap_init) (fd .Heap_init) (psOf .Heap_init) (spF K CA (npOf .Heap_init) (sem (n + 2) .Heap_init)) := by
  rw [sem_Heap_init]
  exact okb_Heap_init T n G G1
theorem v0_operand_words {X : Cx} {CA : Nat → Addr} {pos : Pos} (hn : X.N[0]? = some ("operands" : Str)) (hsc : X.env.scope = defScope s_operand_words) : PE X (.Name "operands" pos) (liE X.K CA (mVar 0)) := re_var hn (visS hsc (by decide +kernel))
theorem gl_tuple_operand_words {X : Cx} (hsc : X.env.scope = defScope s_operand_words) : Gl X "tuple" := glS hsc (by decide +kernel)
theorem okb_operand_words (T : Txt K mg CA fa pa fd) (n : Nat) (G : AllOk P w K mg base CA fa fd (n + 1)) (G1 : AllOk P w K mg base CA fa fd n) : FnOk P w K mg base CX0 (n + 2) (fa .operand_words) (fd .operand_words) ["operands", "words"] (spF K CA 2 (runBody (List.length (["operands", "words", "operand"] : List Str)) (b_operand_words (sem (n + 1)) (sem n)))) := by
  refine def_ok (st := s_operand_words) (Ns := ["operands", "words", "operand"]) (ps := ["operands", "words"]) (np := 2) (k := n + 1) (m := b_operand_words (sem (n + 1)) (sem n)) T.f_operand_words sc_operand_words rfl fun X hP hw hK hmg hbase hN hsc hc hfn hr hpo => ?_
  subst hP hw hK hmg hbase
  have hnd : X.N.Nodup := by rw [hN]; exact sc_operand_words.nd
  have n0 : X.N[0]? = some ("operands" : Str) := by rw [hN]; rfl
  have n1 : X.N[1]? = some ("words" : Str) := by rw [hN]; rfl
  have n2 : X.N[2]? = some ("operand" : Str) := by rw [hN]; rfl
  exact (rss_one (rs_ret (re_callTyL call_tuple_of sim_tupL (gl_tuple_operand_words hsc) T.n_tuple (by decide +kernel) (rl_lc (own := [("operand", 2)]) hc hnd (ri_seq (v0_operand_words n0 hsc)) (by rw [hN, hsc]; exact blkOk_by (by decide +kernel)) tgo_name (fun _ _ _ _ _ => (pg_name hnd n2 (locB hsc (by decide +kernel)) (fnB hsc (by decide +kernel)))) (by simp [Tg.slots, Tg.slotss]) (fun _ _ _ _ _ => rts_nil) (fun _ _ _ _ _ => (re_call (G .operand_word) hr (glB hsc (by decide +kernel)) T.g_operand_word T.f_operand_word.kp T.b_operand_word rfl (mCons_len (mCons_len mNil_len)) (ra_cons (re_var n2 (visB hsc (by decide +kernel))) (ra_cons (re_var n1 (visB hsc (by decide +kernel))) ra_nil))))))))
theorem ok_operand_words (T : Txt K mg CA fa pa fd) (n : Nat) (G : AllOk P w K mg base CA fa fd (n + 1)) (G1 : AllOk P w K mg base CA fa fd n) : FnOk P w K mg base CX0 (n + 2) (fa .operand_words) (fd .operand_words) (psOf .operand_words) (spF K CA (npOf .operand_words) (sem (n + 2) .operand_words)) := by
  rw [sem_operand_words]
  exact okb_operand_words T n G G1
theorem v0_chosen_pick {X : Cx} {CA : Nat → Addr} {pos : Pos} (hn : X.N[0]? = some ("number" : Str)) (hsc : X.env.scope = defScope s_chosen_pick) : PE X (.Name "number" pos) (liE X.K CA (mVar 0)) := re_var hn (visS hsc (by decide +kernel))
theorem v1_chosen_pick {X : Cx} {CA : Nat → Addr} {pos : Pos} (hn : X.N[1]? = some ("alternatives" : Str)) (hsc : X.env.scope = defScope s_chosen_pick) : PE X (.Name "alternatives" pos) (liE X.K CA (mVar 1)) := re_var hn (visS hsc (by decide +kernel))
theorem v2_chosen_pick {X : Cx} {CA : Nat → Addr} {pos : Pos} (hn : X.N[2]? = some ("value" : Str)) (hsc : X.env.scope = defScope s_chosen_pick) : PE X (.Name "value" pos) (liE X.K CA (mVar 2)) := re_var hn (visS hsc (by decide +kernel))
theorem v3_chosen_pick {X : Cx} {CA : Nat → Addr} {pos : Pos} (hn : X.N[3]? = some ("body" : Str)) (hsc : X.env.scope = defScope s_chosen_pick) : PE X (.Name "body" pos) (liE X.K CA (mVar 3)) := re_var hn (visS hsc (by decide +kernel))
theorem lc_3_chosen_pick {X : Cx} (hsc : X.env.scope = defScope s_chosen_pick) : L2.Loc X.env.scope "body" := locS hsc (by decide +kernel)
theorem lc_2_chosen_pick {X : Cx} (hsc : X.env.scope = defScope s_chosen_pick) : L2.Loc X.env.scope "value" := locS hsc (by decide +kernel)
theorem okb_chosen_pick (T : Txt K mg CA fa pa fd) (n : Nat) (G : AllOk P w K mg base CA fa fd (n + 1)) (G1 : AllOk P w K mg base CA fa fd n) : FnOk P w K mg base CX0 (n + 2) (fa .chosen_pick) (fd .chosen_pick) ["number", "alternatives"] (spF K CA 2 (runBody (List.length (["number", "alternatives", "value", "body"] : List Str)) (b_chosen_pick (sem (n + 1)) (sem n)))) := by
  refine def_ok (st := s_chosen_pick) (Ns := ["number", "alternatives", "value", "body"]) (ps := ["number", "alternatives"]) (np := 2) (k := n + 1) (m := b_chosen_pick (sem (n + 1)) (sem n)) T.f_chosen_pick sc_chosen_pick rfl fun X hP hw hK hmg hbase hN hsc hc hfn hr hpo => ?_
  subst hP hw hK hmg hbase
  have hnd : X.N.Nodup := by rw [hN]; exact sc_chosen_pick.nd
  have n0 : X.N[0]? = some ("number" : Str) := by rw [hN]; rfl
  have n1 : X.N[1]? = some ("alternatives" : Str) := by rw [hN]; rfl
  have n2 : X.N[2]? = some ("value" : Str) := by rw [hN]; rfl
  have n3 : X.N[3]? = some ("body" : Str) := by rw [hN]; rfl
  exact (rss_cons (rs_for hpo hc (ri_seq (v1_chosen_pick n1 hsc)) (pt_tup hc (pts'_cons (pt_name hnd n2 (lc_2_chosen_pick hsc) (.inl (hfn _))) (pts'_cons (pt_name hnd n3 (lc_3_chosen_pick hsc) (.inl (hfn _))) pts'_nil)) rfl) (rss_one (rs_if (rt_cmp (op_eqAll hr.units) sim_eq (v2_chosen_pick n2 hsc) (v0_chosen_pick n0 hsc) (nomark _)) (rss_one (rs_ret (v3_chosen_pick n3 hsc))) rss_nil)))
  (rss_one (rs_ret re_non)))
theorem ok_chosen_pick (T : Txt K mg CA fa pa fd) (n : Nat) (G : AllOk P w K mg base CA fa fd (n + 1)) (G1 : AllOk P w K mg base CA fa fd n) : FnOk P w K mg base CX0 (n + 2) (fa .chosen_pick) (fd .chosen_pick) (psOf .chosen_pick) (spF K CA (npOf .chosen_pick) (sem (n + 2) .chosen_pick)) := by
  rw [sem_chosen_pick]
  exact okb_chosen_pick T n G G1
theorem v0_Machine_make {X : Cx} {CA : Nat → Addr} {pos : Pos} (hn : X.N[0]? = some ("self" : Str)) (hsc : X.env.scope = defScope s_Machine_make) : PE X (.Name "self" pos) (liE X.K CA (mVar 0)) := re_var hn (visS hsc (by decide +kernel))
theorem v1_Machine_make {X : Cx} {CA : Nat → Addr} {pos : Pos} (hn : X.N[1]? = some ("cell" : Str)) (hsc : X.env.scope = defScope s_Machine_make) : PE X (.Name "cell" pos) (liE X.K CA (mVar 1)) := re_var hn (visS hsc (by decide +kernel))
theorem okb_Machine_make (T : Txt K mg CA fa pa fd) (n : Nat) (G : AllOk P w K mg base CA fa fd (n + 1)) (G1 : AllOk P w K mg base CA fa fd n) : FnOk P w K mg base CX0 (n + 2) (fa .Machine_make) (fd .Machine_make) ["self", "cell"] (spF K CA 2 (runBody (List.length (["self", "cell"] : List Str)) (b_Machine_make (sem (n + 1)) (sem n)))) := by
  refine def_ok (st := s_Machine_make) (Ns := ["self", "cell"]) (ps := ["self", "cell"]) (np := 2) (k := n + 1) (m := b_Machine_make (sem (n + 1)) (sem n)) T.f_Machine_make sc_Machine_make rfl fun X hP hw hK hmg hbase hN hsc hc hfn hr hpo => ?_
  subst hP hw hK hmg hbase
  have hnd : X.N.Nodup := by rw [hN]; exact sc_Machine_make.nd
  have n0 : X.N[0]? = some ("self" : Str) := by rw [hN]; rfl
  have n1 : X.N[1]? = some ("cell" : Str) := by rw [hN]; rfl
  exact (rss_one (rs_ret (re_op op_mul sim_mul re_int (re_meth T.c_Heap T.m_Heap_make (G .Heap_make) hr T.b_Heap_make rfl (mCons_len mNil_len) (re_fld T.c_Machine T.a_Machine_heap (v0_Machine_make n0 hsc)) (ra_cons (v1_Machine_make n1 hsc) ra_nil)))))
theorem ok_Machine_make (T : Txt K mg CA fa pa fd) (n : Nat) (G : AllOk P w K mg base CA fa fd (n + 1)) (G1 : AllOk P w K mg base CA fa fd n) : FnOk P w K mg base CX0 (n + 2) (fa .Machine_make) (fd .Machine_make) (psOf .Machine_make) (spF K CA (npOf .Machine_make) (sem (n + 2) .Machine_make)) := by
  rw [sem_Machine_make]
  exact okb_Machine_make T n G G1
theorem v0_Machine_meet {X : Cx} {CA : Nat → Addr} {pos : Pos} (hn : X.N[0]? = some ("self" : Str)) (hsc : X.env.scope = defScope s_Machine_meet) : PE X (.Name "self" pos) (liE X.K CA (mVar 0)) := re_var hn (visS hsc (by decide +kernel))
theorem v1_Machine_meet {X : Cx} {CA : Nat → Addr} {pos : Pos} (hn : X.N[1]? = some ("word" : Str)) (hsc : X.env.scope = defScope s_Machine_meet) : PE X (.Name "word" pos) (liE X.K CA (mVar 1)) := re_var hn (visS hsc (by decide +kernel))
theorem v2_Machine_meet {X : Cx} {CA : Nat → Addr} {pos : Pos} (hn : X.N[2]? = some ("frame" : Str)) (hsc : X.env.scope = defScope s_Machine_meet) : PE X (.Name "frame" pos) (liE X.K CA (mVar 2)) := re_var hn (visS hsc (by decide +kernel))
theorem v3_Machine_meet {X : Cx} {CA : Nat → Addr} {pos : Pos} (hn : X.N[3]? = some ("kind" : Str)) (hsc : X.env.scope = defScope s_Machine_meet) : PE X (.Name "kind" pos) (liE X.K CA (mVar 3)) := re_var hn (visS hsc (by decide +kernel))
theorem lc_3_Machine_meet {X : Cx} (hsc : X.env.scope = defScope s_Machine_meet) : L2.Loc X.env.scope "kind" := locS hsc (by decide +kernel)
theorem okb_Machine_meet (T : Txt K mg CA fa pa fd) (n : Nat) (G : AllOk P w K mg base CA fa fd (n + 1)) (G1 : AllOk P w K mg base CA fa fd n) : FnOk P w K mg base CX0 (n + 2) (fa .Machine_meet) (fd .Machine_meet) ["self", "word", "frame"] (spF K CA 3 (runBody (List.length (["self", "word", "frame", "kind"] : List Str)) (b_Machine_meet (sem (n + 1)) (sem n)))) := by
  refine def_ok (st := s_Machine_meet) (Ns := ["self", "word", "frame", "kind"]) (ps := ["self", "word", "frame"]) (np := 3) (k := n + 1) (m := b_Machine_meet (sem (n + 1)) (sem n)) T.f_Machine_meet sc_Machine_meet rfl fun X hP hw hK hmg hbase hN hsc hc hfn hr hpo => ?_
  subst hP hw hK hmg hbase
  have hnd : X.N.Nodup := by rw [hN]; exact sc_Machine_meet.nd
  have n0 : X.N[0]? = some ("self" : Str) := by rw [hN]; rfl
  have n1 : X.N[1]? = some ("word" : Str) := by rw [hN]; rfl
  have n2 : X.N[2]? = some ("frame" : Str) := by rw [hN]; rfl
  have n3 : X.N[3]? = some ("kind" : Str) := by rw [hN]; rfl
  exact (rss_cons (rs_set hnd n3 (lc_3_Machine_meet hsc) (re_ix (ix_all (hu_of hr)) sim_ix (v2_Machine_meet n2 hsc) re_int (fun _ _ => rfl)) (hf := .inl (hfn _)))
  (rss_one (rs_if (rt_cmp (op_eqAll hr.units) sim_eq (v3_Machine_meet n3 hsc) re_str (nomark _)) (rss_one (rs_expr (re_meth T.c_Heap T.m_Heap_put (G .Heap_put) hr T.b_Heap_put rfl (mCons_len (mCons_len mNil_len)) (re_fld T.c_Machine T.a_Machine_heap (v0_Machine_meet n0 hsc)) (ra_cons (re_ix (ix_all (hu_of hr)) sim_ix (v2_Machine_meet n2 hsc) re_int (fun _ _ => rfl)) (ra_cons (re_tup (ra_cons re_str (ra_cons (v1_Machine_meet n1 hsc) ra_nil))) ra_nil))))) (rss_one (rs_if (rt_cmp (op_eqAll hr.units) sim_eq (v3_Machine_meet n3 hsc) re_str (nomark _)) (rss_one (rs_fld T.c_Machine T.a_Machine_now (v0_Machine_meet n0 hsc) (re_tup (ra_cons re_str (ra_cons (re_ix (ix_all (hu_of hr)) sim_ix (v2_Machine_meet n2 hsc) re_int (fun _ _ => rfl)) (ra_cons (re_op op_addAll sim_add (re_ix (ix_all (hu_of hr)) sim_ix (v2_Machine_meet n2 hsc) re_int (fun _ _ => rfl)) (re_tup (ra_cons (v1_Machine_meet n1 hsc) ra_nil))) ra_nil)))))) (rss_one (rs_if (rt_cmp (op_eqAll hr.units) sim_eq (v3_Machine_meet n3 hsc) re_str (nomark _)) (rss_one (rs_expr (re_meth T.c_Machine T.m_Machine_apply (G .Machine_apply) hr T.b_Machine_apply rfl (mCons_len (mCons_len mNil_len)) (v0_Machine_meet n0 hsc) (ra_cons (v1_Machine_meet n1 hsc) (ra_cons (re_ix (ix_all (hu_of hr)) sim_ix (v2_Machine_meet n2 hsc) re_int (fun _ _ => rfl)) ra_nil))))) (rss_one (rs_if (rt_cmp (op_eqAll hr.units) sim_eq (re_op op_modN sim_mod (v1_Machine_meet n1 hsc) re_int) re_int (nomark _)) (rss_one (rs_expr (re_meth T.c_Machine T.m_Machine_meet_number (G .Machine_meet_number) hr T.b_Machine_meet_number rfl (mCons_len (mCons_len mNil_len)) (v0_Machine_meet n0 hsc) (ra_cons (re_op op_fdivG sim_div (v1_Machine_meet n1 hsc) re_int) (ra_cons (v2_Machine_meet n2 hsc) ra_nil))))) (rss_one (rs_if (rt_cmp (op_eqAll hr.units) sim_eq (re_ix (ix_all (hu_of hr)) sim_ix (re_meth T.c_Heap T.m_Heap_cell (G .Heap_cell) hr T.b_Heap_cell rfl (mCons_len mNil_len) (re_fld T.c_Machine T.a_Machine_heap (v0_Machine_meet n0 hsc)) (ra_cons (re_op op_fdivG sim_div (v1_Machine_meet n1 hsc) re_int) ra_nil)) re_int (fun _ _ => rfl)) re_str (nomark _)) (rss_one (rs_expr (re_meth T.c_Machine T.m_Machine_meet_constructor (G .Machine_meet_constructor) hr T.b_Machine_meet_constructor rfl (mCons_len (mCons_len (mCons_len mNil_len))) (v0_Machine_meet n0 hsc) (ra_cons (v1_Machine_meet n1 hsc) (ra_cons (re_meth T.c_Heap T.m_Heap_cell (G .Heap_cell) hr T.b_Heap_cell rfl (mCons_len mNil_len) (re_fld T.c_Machine T.a_Machine_heap (v0_Machine_meet n0 hsc)) (ra_cons (re_op op_fdivG sim_div (v1_Machine_meet n1 hsc) re_int) ra_nil)) (ra_cons (v2_Machine_meet n2 hsc) ra_nil)))))) (rss_one (rs_fld T.c_Machine T.a_Machine_now (v0_Machine_meet n0 hsc) (re_tup (ra_cons re_str ra_nil)))))))))))))))
theorem ok_Machine_meet (T : Txt K mg CA fa pa fd) (n : Nat) (G : AllOk P w K mg base CA fa fd (n + 1)) (G1 : AllOk P w K mg base CA fa fd n) : FnOk P w K mg base CX0 (n + 2) (fa .Machine_meet) (fd .Machine_meet) (psOf .Machine_meet) (spF K CA (npOf .Machine_meet) (sem (n + 2) .Machine_meet)) := by
  rw [sem_Machine_meet]
  exact okb_Machine_meet T n G G1
theorem v0_run_code {X : Cx} {CA : Nat → Addr} {pos : Pos} (hn : X.N[0]? = some ("program" : Str)) (hsc : X.env.scope = defScope s_run_code) : PE X (.Name "program" pos) (liE X.K CA (mVar 0)) := re_var hn (visS hsc (by decide +kernel))
theorem v1_run_code {X : Cx} {CA : Nat → Addr} {pos : Pos} (hn : X.N[1]? = some ("room" : Str)) (hsc : X.env.scope = defScope s_run_code) : PE X (.Name "room" pos) (liE X.K CA (mVar 1)) := re_var hn (visS hsc (by decide +kernel))
theorem v2_run_code {X : Cx} {CA : Nat → Addr} {pos : Pos} (hn : X.N[2]? = some ("schedule" : Str)) (hsc : X.env.scope = defScope s_run_code) : PE X (.Name "schedule" pos) (liE X.K CA (mVar 2)) := re_var hn (visS hsc (by decide +kernel))
theorem v3_run_code {X : Cx} {CA : Nat → Addr} {pos : Pos} (hn : X.N[3]? = some ("steps" : Str)) (hsc : X.env.scope = defScope s_run_code) : PE X (.Name "steps" pos) (liE X.K CA (mVar 3)) := re_var hn (visS hsc (by decide +kernel))
theorem v4_run_code {X : Cx} {CA : Nat → Addr} {pos : Pos} (hn : X.N[4]? = some ("machine" : Str)) (hsc : X.env.scope = defScope s_run_code) : PE X (.Name "machine" pos) (liE X.K CA (mVar 4)) := re_var hn (visS hsc (by decide +kernel))
theorem v5_run_code {X : Cx} {CA : Nat → Addr} {pos : Pos} (hn : X.N[5]? = some ("planned" : Str)) (hsc : X.env.scope = defScope s_run_code) : PE X (.Name "planned" pos) (liE X.K CA (mVar 5)) := re_var hn (visS hsc (by decide +kernel))
theorem v6_run_code {X : Cx} {CA : Nat → Addr} {pos : Pos} (hn : X.N[6]? = some ("at" : Str)) (hsc : X.env.scope = defScope s_run_code) : PE X (.Name "at" pos) (liE X.K CA (mVar 6)) := re_var hn (visS hsc (by decide +kernel))
theorem v7_run_code {X : Cx} {CA : Nat → Addr} {pos : Pos} (hn : X.N[7]? = some ("state" : Str)) (hsc : X.env.scope = defScope s_run_code) : PE X (.Name "state" pos) (liE X.K CA (mVar 7)) := re_var hn (visS hsc (by decide +kernel))
theorem gl_Machine_run_code {X : Cx} (hsc : X.env.scope = defScope s_run_code) : Gl X "Machine" := glS hsc (by decide +kernel)
theorem gl_len_run_code {X : Cx} (hsc : X.env.scope = defScope s_run_code) : Gl X "len" := glS hsc (by decide +kernel)
theorem gl_range_run_code {X : Cx} (hsc : X.env.scope = defScope s_run_code) : Gl X "range" := glS hsc (by decide +kernel)
theorem gl_tuple_run_code {X : Cx} (hsc : X.env.scope = defScope s_run_code) : Gl X "tuple" := glS hsc (by decide +kernel)
theorem lk_5_run_code {X : Cx} (hsc : X.env.scope = defScope s_run_code) : X.env.scope.names.lookup ("planned" : Str) = some NameKind.local := by rw [hsc]; decide +kernel
theorem lc_6_run_code {X : Cx} (hsc : X.env.scope = defScope s_run_code) : L2.Loc X.env.scope "at" := locS hsc (by decide +kernel)
theorem lc_4_run_code {X : Cx} (hsc : X.env.scope = defScope s_run_code) : L2.Loc X.env.scope "machine" := locS hsc (by decide +kernel)
theorem lc_7_run_code {X : Cx} (hsc : X.env.scope = defScope s_run_code) : L2.Loc X.env.scope "state" := locS hsc (by decide +kernel)
theorem okb_run_code (T : Txt K mg CA fa pa fd) (n : Nat) (G : AllOk P w K mg base CA fa fd (n + 1)) (G1 : AllOk P w K mg base CA fa fd n) : FnOk P w K mg base CX0 (n + 2) (fa .run_code) (fd .run_code) ["program", "room", "schedule", "steps"] (spF K CA 4 (runBody (List.length (["program", "room", "schedule", "steps", "machine", "planned", "at", "state"] : List Str)) (b_run_code (sem (n + 1)) (sem n)))) := by
  refine def_ok (st := s_run_code) (Ns := ["program", "room", "schedule", "steps", "machine", "planned", "at", "state"]) (ps := ["program", "room", "schedule", "steps"]) (np := 4) (k := n + 1) (m := b_run_code (sem (n + 1)) (sem n)) T.f_run_code sc_run_code rfl fun X hP hw hK hmg hbase hN hsc hc hfn hr hpo => ?_
  subst hP hw hK hmg hbase
  have hnd : X.N.Nodup := by rw [hN]; exact sc_run_code.nd
  have n0 : X.N[0]? = some ("program" : Str) := by rw [hN]; rfl
  have n1 : X.N[1]? = some ("room" : Str) := by rw [hN]; rfl
  have n2 : X.N[2]? = some ("schedule" : Str) := by rw [hN]; rfl
  have n3 : X.N[3]? = some ("steps" : Str) := by rw [hN]; rfl
  have n4 : X.N[4]? = some ("machine" : Str) := by rw [hN]; rfl
  have n5 : X.N[5]? = some ("planned" : Str) := by rw [hN]; rfl
  have n6 : X.N[6]? = some ("at" : Str) := by rw [hN]; rfl
  have n7 : X.N[7]? = some ("state" : Str) := by rw [hN]; rfl
  exact (rss_cons (rs_set hnd n4 (lc_4_run_code hsc) (re_make T.mk_Machine (G1 .Machine_init) hr (gl_Machine_run_code hsc) T.gc_Machine T.b_Machine_init rfl (mCons_len (mCons_len mNil_len)) (ra_cons (v0_run_code n0 hsc) (ra_cons (v1_run_code n1 hsc) ra_nil))) (hf := .inl (hfn _)))
  (rss_cons (rs_setDc (own := [("at", 6)]) hc hnd n5 (lk_5_run_code hsc) (swD_true (by rw [hsc]; rfl) (lk_5_run_code hsc) rfl (by decide +kernel)) (ri_seq (v2_run_code n2 hsc)) (by rw [hN, hsc]; exact blkOk_by (by decide +kernel)) tgo_name (fun _ _ _ _ _ => (pg_name hnd n6 (locB hsc (by decide +kernel)) (fnB hsc (by decide +kernel)))) (by simp [Tg.slots, Tg.slotss]) (fun _ _ _ _ _ => rts_nil) (fun _ _ _ _ _ => (re_var n6 (visB hsc (by decide +kernel)))) (fun _ _ _ _ _ => re_bl))
  (rss_cons (rs_for hpo hc (ri_range1 (gl_range_run_code hsc) T.n_range (ra_cons (v3_run_code n3 hsc) ra_nil) (mCons_n mNil_n)) (pt_name hnd n6 (lc_6_run_code hsc) (.inl (hfn _))) (rss_cons (rs_if (rt_truth (re_prop T.c_Machine T.p_Machine_stopped (G1 .Machine_stopped) hr T.b_Machine_stopped (v4_run_code n4 hsc))) (rss_one rs_brk) rss_nil)
  (rss_cons (rs_if (rt_cmp (op_inAll (hu_of hr)) (sim_in _) (v6_run_code n6 hsc) (v5_run_code n5 hsc) (by rfl)) (rss_one (rs_expr (re_meth0 T.c_Machine T.m_Machine_collect (G .Machine_collect) hr T.b_Machine_collect rfl (v4_run_code n4 hsc)))) rss_nil)
  (rss_one (rs_expr (re_meth0 T.c_Machine T.m_Machine_step (G .Machine_step) hr T.b_Machine_step rfl (v4_run_code n4 hsc)))))))
  (rss_cons (rs_set hnd n7 (lc_7_run_code hsc) (re_tup (ra_cons re_str ra_nil)) (hf := .inl (hfn _)))
  (rss_cons (rs_if (rt_truth (re_prop T.c_Machine T.p_Machine_stopped (G1 .Machine_stopped) hr T.b_Machine_stopped (v4_run_code n4 hsc))) (rss_one (rs_set hnd n7 (lc_7_run_code hsc) (re_fld T.c_Machine T.a_Machine_now (v4_run_code n4 hsc)) (hf := .inl (hfn _)))) rss_nil)
  (rss_one (rs_ret (re_tup (ra_cons (re_callTy call_tuple_of sim_tuple (gl_tuple_run_code hsc) T.n_tuple (by decide +kernel) (ra_cons (re_fld T.c_Machine T.a_Machine_events (v4_run_code n4 hsc)) ra_nil)) (ra_cons (v7_run_code n7 hsc) (ra_cons (re_callB call_lenAll sim_len (gl_len_run_code hsc) T.n_len (by decide +kernel) (ra_cons (re_fld T.c_Machine T.a_Machine_entered (v4_run_code n4 hsc)) ra_nil)) (ra_cons (re_fld T.c_Machine T.a_Machine_collections (v4_run_code n4 hsc)) ra_nil))))))))))))
theorem ok_run_code (T : Txt K mg CA fa pa fd) (n : Nat) (G : AllOk P w K mg base CA fa fd (n + 1)) (G1 : AllOk P w K mg base CA fa fd n) : FnOk P w K mg base CX0 (n + 2) (fa .run_code) (fd .run_code) (psOf .run_code) (spF K CA (npOf .run_code) (sem (n + 2) .run_code)) := by
  rw [sem_run_code]
  exact okb_run_code T n G G1
theorem v0_law {X : Cx} {CA : Nat → Addr} {pos : Pos} (hn : X.N[0]? = some ("_law_script" : Str)) (hsc : X.env.scope = defScope s_law) : PE X (.Name "_law_script" pos) (liE X.K CA (mVar 0)) := re_var hn (visS hsc (by decide +kernel))
theorem v1_law {X : Cx} {CA : Nat → Addr} {pos : Pos} (hn : X.N[1]? = some ("_law_w" : Str)) (hsc : X.env.scope = defScope s_law) : PE X (.Name "_law_w" pos) (liE X.K CA (mVar 1)) := re_var hn (visS hsc (by decide +kernel))
theorem v2_law {X : Cx} {CA : Nat → Addr} {pos : Pos} (hn : X.N[2]? = some ("_law_body" : Str)) (hsc : X.env.scope = defScope s_law) : PE X (.Name "_law_body" pos) (liE X.K CA (mVar 2)) := re_var hn (visS hsc (by decide +kernel))
theorem v3_law {X : Cx} {CA : Nat → Addr} {pos : Pos} (hn : X.N[3]? = some ("_law_expected" : Str)) (hsc : X.env.scope = defScope s_law) : PE X (.Name "_law_expected" pos) (liE X.K CA (mVar 3)) := re_var hn (visS hsc (by decide +kernel))
theorem v5_law {X : Cx} {CA : Nat → Addr} {pos : Pos} (hn : X.N[5]? = some ("_law_sign" : Str)) (hsc : X.env.scope = defScope s_law) : PE X (.Name "_law_sign" pos) (liE X.K CA (mVar 5)) := re_var hn (visS hsc (by decide +kernel))
theorem v6_law {X : Cx} {CA : Nat → Addr} {pos : Pos} (hn : X.N[6]? = some ("_law_left" : Str)) (hsc : X.env.scope = defScope s_law) : PE X (.Name "_law_left" pos) (liE X.K CA (mVar 6)) := re_var hn (visS hsc (by decide +kernel))
theorem v7_law {X : Cx} {CA : Nat → Addr} {pos : Pos} (hn : X.N[7]? = some ("_law_right" : Str)) (hsc : X.env.scope = defScope s_law) : PE X (.Name "_law_right" pos) (liE X.K CA (mVar 7)) := re_var hn (visS hsc (by decide +kernel))
theorem v8_law {X : Cx} {CA : Nat → Addr} {pos : Pos} (hn : X.N[8]? = some ("_law_shown" : Str)) (hsc : X.env.scope = defScope s_law) : PE X (.Name "_law_shown" pos) (liE X.K CA (mVar 8)) := re_var hn (visS hsc (by decide +kernel))
theorem v9_law {X : Cx} {CA : Nat → Addr} {pos : Pos} (hn : X.N[9]? = some ("_law_event" : Str)) (hsc : X.env.scope = defScope s_law) : PE X (.Name "_law_event" pos) (liE X.K CA (mVar 9)) := re_var hn (visS hsc (by decide +kernel))
theorem v10_law {X : Cx} {CA : Nat → Addr} {pos : Pos} (hn : X.N[10]? = some ("_law_events" : Str)) (hsc : X.env.scope = defScope s_law) : PE X (.Name "_law_events" pos) (liE X.K CA (mVar 10)) := re_var hn (visS hsc (by decide +kernel))
theorem v11_law {X : Cx} {CA : Nat → Addr} {pos : Pos} (hn : X.N[11]? = some ("_law_state" : Str)) (hsc : X.env.scope = defScope s_law) : PE X (.Name "_law_state" pos) (liE X.K CA (mVar 11)) := re_var hn (visS hsc (by decide +kernel))
theorem v12_law {X : Cx} {CA : Nat → Addr} {pos : Pos} (hn : X.N[12]? = some ("_law_entered" : Str)) (hsc : X.env.scope = defScope s_law) : PE X (.Name "_law_entered" pos) (liE X.K CA (mVar 12)) := re_var hn (visS hsc (by decide +kernel))
theorem v13_law {X : Cx} {CA : Nat → Addr} {pos : Pos} (hn : X.N[13]? = some ("_law_collections" : Str)) (hsc : X.env.scope = defScope s_law) : PE X (.Name "_law_collections" pos) (liE X.K CA (mVar 13)) := re_var hn (visS hsc (by decide +kernel))
theorem v14_law {X : Cx} {CA : Nat → Addr} {pos : Pos} (hn : X.N[14]? = some ("_law_last" : Str)) (hsc : X.env.scope = defScope s_law) : PE X (.Name "_law_last" pos) (liE X.K CA (mVar 14)) := re_var hn (visS hsc (by decide +kernel))
theorem gl__law_draws_law {X : Cx} (hsc : X.env.scope = defScope s_law) : Gl X "_law_draws" := glS hsc (by decide +kernel)
theorem gl__law_next_law {X : Cx} (hsc : X.env.scope = defScope s_law) : Gl X "_law_next" := glS hsc (by decide +kernel)
theorem gl__law_number_law {X : Cx} (hsc : X.env.scope = defScope s_law) : Gl X "_law_number" := glS hsc (by decide +kernel)
theorem gl__law_result_law {X : Cx} (hsc : X.env.scope = defScope s_law) : Gl X "_law_result" := glS hsc (by decide +kernel)
theorem gl__law_term_law {X : Cx} (hsc : X.env.scope = defScope s_law) : Gl X "_law_term" := glS hsc (by decide +kernel)
theorem gl_len_law {X : Cx} (hsc : X.env.scope = defScope s_law) : Gl X "len" := glS hsc (by decide +kernel)
theorem gl_range_law {X : Cx} (hsc : X.env.scope = defScope s_law) : Gl X "range" := glS hsc (by decide +kernel)
theorem gl_run_code_law {X : Cx} (hsc : X.env.scope = defScope s_law) : Gl X "run_code" := glS hsc (by decide +kernel)
theorem gl_tuple_law {X : Cx} (hsc : X.env.scope = defScope s_law) : Gl X "tuple" := glS hsc (by decide +kernel)
theorem lc_2_law {X : Cx} (hsc : X.env.scope = defScope s_law) : L2.Loc X.env.scope "_law_body" := locS hsc (by decide +kernel)
theorem lc_13_law {X : Cx} (hsc : X.env.scope = defScope s_law) : L2.Loc X.env.scope "_law_collections" := locS hsc (by decide +kernel)
theorem lc_12_law {X : Cx} (hsc : X.env.scope = defScope s_law) : L2.Loc X.env.scope "_law_entered" := locS hsc (by decide +kernel)
theorem lc_9_law {X : Cx} (hsc : X.env.scope = defScope s_law) : L2.Loc X.env.scope "_law_event" := locS hsc (by decide +kernel)
theorem lc_10_law {X : Cx} (hsc : X.env.scope = defScope s_law) : L2.Loc X.env.scope "_law_events" := locS hsc (by decide +kernel)
theorem lc_3_law {X : Cx} (hsc : X.env.scope = defScope s_law) : L2.Loc X.env.scope "_law_expected" := locS hsc (by decide +kernel)
theorem lc_4_law {X : Cx} (hsc : X.env.scope = defScope s_law) : L2.Loc X.env.scope "_law_k" := locS hsc (by decide +kernel)
theorem lc_14_law {X : Cx} (hsc : X.env.scope = defScope s_law) : L2.Loc X.env.scope "_law_last" := locS hsc (by decide +kernel)
theorem lc_6_law {X : Cx} (hsc : X.env.scope = defScope s_law) : L2.Loc X.env.scope "_law_left" := locS hsc (by decide +kernel)
theorem lc_7_law {X : Cx} (hsc : X.env.scope = defScope s_law) : L2.Loc X.env.scope "_law_right" := locS hsc (by decide +kernel)
theorem lc_8_law {X : Cx} (hsc : X.env.scope = defScope s_law) : L2.Loc X.env.scope "_law_shown" := locS hsc (by decide +kernel)
theorem lc_5_law {X : Cx} (hsc : X.env.scope = defScope s_law) : L2.Loc X.env.scope "_law_sign" := locS hsc (by decide +kernel)
theorem lc_11_law {X : Cx} (hsc : X.env.scope = defScope s_law) : L2.Loc X.env.scope "_law_state" := locS hsc (by decide +kernel)
theorem lc_1_law {X : Cx} (hsc : X.env.scope = defScope s_law) : L2.Loc X.env.scope "_law_w" := locS hsc (by decide +kernel)
theorem okb_law (T : Txt K mg CA fa pa fd) (n : Nat) (G : AllOk P w K mg base CA fa fd (n + 1)) (G1 : AllOk P w K mg base CA fa fd n) : FnOk P w K mg base CX0 (n + 2) (fa .law) (fd .law) ["_law_script"] (spF K CA 1 (runBody (List.length (["_law_script", "_law_w", "_law_body", "_law_expected", "_law_k", "_law_sign", "_law_left", "_law_right", "_law_shown", "_law_event", "_law_events", "_law_state", "_law_entered", "_law_collections", "_law_last"] : List Str)) (b_law (sem (n + 1)) (sem n)))) := by
  refine def_ok (st := s_law) (Ns := ["_law_script", "_law_w", "_law_body", "_law_expected", "_law_k", "_law_sign", "_law_left", "_law_right", "_law_shown", "_law_event", "_law_events", "_law_state", "_law_entered", "_law_collections", "_law_last"]) (ps := ["_law_script"]) (np := 1) (k := n + 1) (m := b_law (sem (n + 1)) (sem n)) T.f_law sc_law rfl fun X hP hw hK hmg hbase hN hsc hc hfn hr hpo => ?_
  subst hP hw hK hmg hbase
  have hnd : X.N.Nodup := by rw [hN]; exact sc_law.nd
  have n0 : X.N[0]? = some ("_law_script" : Str) := by rw [hN]; rfl
  have n1 : X.N[1]? = some ("_law_w" : Str) := by rw [hN]; rfl
  have n2 : X.N[2]? = some ("_law_body" : Str) := by rw [hN]; rfl
  have n3 : X.N[3]? = some ("_law_expected" : Str) := by rw [hN]; rfl
  have n4 : X.N[4]? = some ("_law_k" : Str) := by rw [hN]; rfl
  have n5 : X.N[5]? = some ("_law_sign" : Str) := by rw [hN]; rfl
  have n6 : X.N[6]? = some ("_law_left" : Str) := by rw [hN]; rfl
  have n7 : X.N[7]? = some ("_law_right" : Str) := by rw [hN]; rfl
  have n8 : X.N[8]? = some ("_law_shown" : Str) := by rw [hN]; rfl
  have n9 : X.N[9]? = some ("_law_event" : Str) := by rw [hN]; rfl
  have n10 : X.N[10]? = some ("_law_events" : Str) := by rw [hN]; rfl
  have n11 : X.N[11]? = some ("_law_state" : Str) := by rw [hN]; rfl
  have n12 : X.N[12]? = some ("_law_entered" : Str) := by rw [hN]; rfl
  have n13 : X.N[13]? = some ("_law_collections" : Str) := by rw [hN]; rfl
  have n14 : X.N[14]? = some ("_law_last" : Str) := by rw [hN]; rfl
  exact (rss_cons (rs_set hnd n1 (lc_1_law hsc) (re_dict (pd_cons (kk := .inr "draws") pe_str (re_call (G .l_draws) hr (gl__law_draws_law hsc) T.g_l_draws T.f_l_draws.kp T.b_l_draws rfl (mCons_len (mCons_len mNil_len)) (ra_cons (v0_law n0 hsc) (ra_cons re_int ra_nil))) (pd_cons (kk := .inr "at") pe_str re_int pd_nil)) rfl (by simp) (by decide)) (hf := .inl (hfn _)))
  (rss_cons (rs_set hnd n2 (lc_2_law hsc) (re_tup (ra_cons re_str (ra_cons re_int (ra_cons (re_tup ra_nil) ra_nil)))) (hf := .inl (hfn _)))
  (rss_cons (rs_set hnd n3 (lc_3_law hsc) (re_ofL (rl_lst (ra_cons (re_tup (ra_cons re_str ra_nil)) ra_nil))) (hf := .inl (hfn _)))
  (rss_cons (rs_for hpo hc (ri_range1 (gl_range_law hsc) T.n_range (ra_cons (re_call (G .l_next) hr (gl__law_next_law hsc) T.g_l_next T.f_l_next.kp T.b_l_next rfl (mCons_len (mCons_len mNil_len)) (ra_cons (v1_law n1 hsc) (ra_cons re_int ra_nil))) ra_nil) (mCons_n mNil_n)) (pt_name hnd n4 (lc_4_law hsc) (.inl (hfn _))) (rss_cons (rs_set hnd n5 (lc_5_law hsc) (re_ixL (rl_lst (ra_cons re_str (ra_cons re_str (ra_cons re_str (ra_cons re_str (ra_cons re_str (ra_cons re_str (ra_cons re_str (ra_cons re_str ra_nil))))))))) (re_call (G .l_next) hr (gl__law_next_law hsc) T.g_l_next T.f_l_next.kp T.b_l_next rfl (mCons_len (mCons_len mNil_len)) (ra_cons (v1_law n1 hsc) (ra_cons re_int ra_nil))) (fun _ _ => rfl)) (hf := .inl (hfn _)))
  (rss_cons (rs_set hnd n6 (lc_6_law hsc) (re_call (G .l_number) hr (gl__law_number_law hsc) T.g_l_number T.f_l_number.kp T.b_l_number rfl (mCons_len mNil_len) (ra_cons (v1_law n1 hsc) ra_nil)) (hf := .inl (hfn _)))
  (rss_cons (rs_set hnd n7 (lc_7_law hsc) (re_call (G .l_number) hr (gl__law_number_law hsc) T.g_l_number T.f_l_number.kp T.b_l_number rfl (mCons_len mNil_len) (ra_cons (v1_law n1 hsc) ra_nil)) (hf := .inl (hfn _)))
  (rss_cons (rs_set hnd n2 (lc_2_law hsc) (re_tup (ra_cons re_str (ra_cons (re_tup (ra_cons (re_tup (ra_cons re_str (ra_cons (re_tup ra_nil) (ra_cons (re_call (G .l_term) hr (gl__law_term_law hsc) T.g_l_term T.f_l_term.kp T.b_l_term rfl (mCons_len (mCons_len (mCons_len mNil_len))) (ra_cons (v5_law n5 hsc) (ra_cons (v6_law n6 hsc) (ra_cons (v7_law n7 hsc) ra_nil)))) ra_nil)))) (ra_cons (re_tup (ra_cons re_str (ra_cons (re_tup ra_nil) (ra_cons (v2_law n2 hsc) ra_nil)))) ra_nil))) (ra_cons (re_tup (ra_cons re_str (ra_cons re_int (ra_cons (re_tup (ra_cons (re_tup (ra_cons re_str (ra_cons re_int ra_nil))) (ra_cons (re_tup (ra_cons re_str (ra_cons re_int ra_nil))) ra_nil))) ra_nil)))) ra_nil)))) (hf := .inl (hfn _)))
  (rss_one (rs_set hnd n3 (lc_3_law hsc) (re_op op_addAll sim_add (re_ofL (rl_lst (ra_cons (re_call (G .l_result) hr (gl__law_result_law hsc) T.g_l_result T.f_l_result.kp T.b_l_result rfl (mCons_len (mCons_len (mCons_len mNil_len))) (ra_cons (v5_law n5 hsc) (ra_cons (v6_law n6 hsc) (ra_cons (v7_law n7 hsc) ra_nil)))) ra_nil))) (v3_law n3 hsc)) (hf := .inl (hfn _)))))))))
  (rss_cons (rs_set hnd n8 (lc_8_law hsc) (re_ofL (rl_lst ra_nil)) (hf := .inl (hfn _)))
  (rss_cons (rs_for hpo hc (ri_seq (v3_law n3 hsc)) (pt_name hnd n9 (lc_9_law hsc) (.inl (hfn _))) (rss_one (rs_if (rt_w (rw_or (rt_cmp (op_eqAll hr.units) sim_eq (v8_law n8 hsc) (re_ofL (rl_lst ra_nil)) (nomark _)) (rw_or1 (rt_cmp (op_eqAll hr.units) sim_eq (re_ix (ix_all (hu_of hr)) sim_ix (re_ix (ix_all (hu_of hr)) sim_ix (v8_law n8 hsc) (re_un un_neg sim_neg re_int) (fun _ _ => rfl)) re_int (fun _ _ => rfl)) re_str (nomark _))))) (rss_one (rs_expr (re_bm PySem.F.slot_list_append PySem.F.type_list_append mt_append sim_append (v8_law n8 hsc) (ra_cons (v9_law n9 hsc) ra_nil)))) rss_nil)))
  (rss_cons (rs_asg (pt_tup hc (pts'_cons (pt_name hnd n10 (lc_10_law hsc) (.inl (hfn _))) (pts'_cons (pt_name hnd n11 (lc_11_law hsc) (.inl (hfn _))) (pts'_cons (pt_name hnd n12 (lc_12_law hsc) (.inl (hfn _))) (pts'_cons (pt_name hnd n13 (lc_13_law hsc) (.inl (hfn _))) pts'_nil)))) rfl) (re_call (G .run_code) hr (gl_run_code_law hsc) T.g_run_code T.f_run_code.kp T.b_run_code rfl (mCons_len (mCons_len (mCons_len (mCons_len mNil_len)))) (ra_cons (re_tup (ra_cons (re_tup (ra_cons (re_tup (ra_cons re_int (ra_cons (v2_law n2 hsc) ra_nil))) ra_nil)) (ra_cons re_int ra_nil))) (ra_cons (re_op op_pow sim_pow re_int re_int) (ra_cons (re_ofL (rl_lst ra_nil)) (ra_cons re_int ra_nil))))))
  (rss_cons (rs_if (rt_w (rw_or (rt_cmp (op_neAll hr.units) sim_ne (v10_law n10 hsc) (re_callTy call_tuple_of sim_tuple (gl_tuple_law hsc) T.n_tuple (by decide +kernel) (ra_cons (v8_law n8 hsc) ra_nil)) (nomark _)) (rw_or (rt_cmp (op_neAll hr.units) sim_ne (v11_law n11 hsc) (re_ix (ix_all (hu_of hr)) sim_ix (v8_law n8 hsc) (re_un un_neg sim_neg re_int) (fun _ _ => rfl)) (nomark _)) (rw_or1 (rt_cmp (op_neAll hr.units) sim_ne (v13_law n13 hsc) re_int (nomark _)))))) (rss_one (rs_ret re_bl)) rss_nil)
  (rss_cons (rs_set hnd n14 (lc_14_law hsc) (re_op op_sub sim_sub (re_callB call_lenAll sim_len (gl_len_law hsc) T.n_len (by decide +kernel) (ra_cons (v8_law n8 hsc) ra_nil)) re_int) (hf := .inl (hfn _)))
  (rss_cons (rs_if (rt_cmp (op_eqAll hr.units) sim_eq (re_ix (ix_all (hu_of hr)) sim_ix (v8_law n8 hsc) (re_un un_neg sim_neg re_int) (fun _ _ => rfl)) (re_tup (ra_cons re_str ra_nil)) (nomark _)) (rss_one (rs_ret (re_cmp (op_eqAll hr.units) sim_eq (v12_law n12 hsc) (re_op op_addAll sim_add re_int (re_op op_mul sim_mul re_int (v14_law n14 hsc))) (nomark _)))) rss_nil)
  (rss_one (rs_ret (re_cmp (op_eqAll hr.units) sim_eq (v12_law n12 hsc) (re_op op_addAll sim_add re_int (re_op op_mul sim_mul re_int (v14_law n14 hsc))) (nomark _))))))))))))))
theorem ok_law (T : Txt K mg CA fa pa fd) (n : Nat) (G : AllOk P w K mg base CA fa fd (n + 1)) (G1 : AllOk P w K mg base CA fa fd n) : FnOk P w K mg base CX0 (n + 2) (fa .law) (fd .law) (psOf .law) (spF K CA (npOf .law) (sem (n + 2) .law)) := by
  rw [sem_law]
  exact okb_law T n G G1
end
end Nk66

namespace Nk66
open PySem L2 Nd
section
variable {P : Program} {w : World} {K : PySem.W.Frag} {mg : Str → Option Value} {base : Heap} {CA : Nat → Addr} {fa pa : Fi → Addr} {fd : Fi → FuncData}
theorem v0_Heap_make {X : Cx} {CA : Nat → Addr} {pos : Pos} (hn : X.N[0]? = some ("self" : Str)) (hsc : X.env.scope = defScope s_Heap_make) : PE X (.Name "self" pos) (liE X.K CA (mVar 0)) := re_var hn (visS hsc (by decide +kernel))
theorem v1_Heap_make {X : Cx} {CA : Nat → Addr} {pos : Pos} (hn : X.N[1]? = some ("cell" : Str)) (hsc : X.env.scope = defScope s_Heap_make) : PE X (.Name "cell" pos) (liE X.K CA (mVar 1)) := re_var hn (visS hsc (by decide +kernel))
theorem v2_Heap_make {X : Cx} {CA : Nat → Addr} {pos : Pos} (hn : X.N[2]? = some ("address" : Str)) (hsc : X.env.scope = defScope s_Heap_make) : PE X (.Name "address" pos) (liE X.K CA (mVar 2)) := re_var hn (visS hsc (by decide +kernel))
theorem gl_size_of_Heap_make {X : Cx} (hsc : X.env.scope = defScope s_Heap_make) : Gl X "size_of" := glS hsc (by decide +kernel)
theorem lc_2_Heap_make {X : Cx} (hsc : X.env.scope = defScope s_Heap_make) : L2.Loc X.env.scope "address" := locS hsc (by decide +kernel)
theorem okb_Heap_make (T : Txt K mg CA fa pa fd) (n : Nat) (G : AllOk P w K mg base CA fa fd (n + 1)) (G1 : AllOk P w K mg base CA fa fd n) : FnOk P w K mg base CX0 (n + 2) (fa .Heap_make) (fd .Heap_make) ["self", "cell"] (spF K CA 2 (runBody (List.length (["self", "cell", "address"] : List Str)) (b_Heap_make (sem (n + 1)) (sem n)))) := by
  refine def_ok (st := s_Heap_make) (Ns := ["self", "cell", "address"]) (ps := ["self", "cell"]) (np := 2) (k := n + 1) (m := b_Heap_make (sem (n + 1)) (sem n)) T.f_Heap_make sc_Heap_make rfl fun X hP hw hK hmg hbase hN hsc hc hfn hr hpo => ?_
  subst hP hw hK hmg hbase
  have hnd : X.N.Nodup := by rw [hN]; exact sc_Heap_make.nd
  have n0 : X.N[0]? = some ("self" : Str) := by rw [hN]; rfl
  have n1 : X.N[1]? = some ("cell" : Str) := by rw [hN]; rfl
  have n2 : X.N[2]? = some ("address" : Str) := by rw [hN]; rfl
  exact (rss_cons (rs_set hnd n2 (lc_2_Heap_make hsc) (re_fld T.c_Heap T.a_Heap_next_address (v0_Heap_make n0 hsc)) (hf := .inl (hfn _)))
  (rss_cons (rs_putD (hu_of hr) (re_fld T.c_Heap T.a_Heap__cells (v0_Heap_make n0 hsc)) (v2_Heap_make n2 hsc) (v1_Heap_make n1 hsc))
  (rss_cons (rs_augF in_addG T.c_Heap T.a_Heap_used (v0_Heap_make n0 hsc) (re_call (G .size_of) hr (gl_size_of_Heap_make hsc) T.g_size_of T.f_size_of.kp T.b_size_of rfl (mCons_len mNil_len) (ra_cons (v1_Heap_make n1 hsc) ra_nil)))
  (rss_cons (rs_augF in_addG T.c_Heap T.a_Heap_next_address (v0_Heap_make n0 hsc) re_int)
  (rss_one (rs_ret (v2_Heap_make n2 hsc)))))))
theorem ok_Heap_make (T : Txt K mg CA fa pa fd) (n : Nat) (G : AllOk P w K mg base CA fa fd (n + 1)) (G1 : AllOk P w K mg base CA fa fd n) : FnOk P w K mg base CX0 (n + 2) (fa .Heap_make) (fd .Heap_make) (psOf .Heap_make) (spF K CA (npOf .Heap_make) (sem (n + 2) .Heap_make)) := by
  rw [sem_Heap_make]
  exact okb_Heap_make T n G G1
theorem v0_delayed_size {X : Cx} {CA : Nat → Addr} {pos : Pos} (hn : X.N[0]? = some ("delayed" : Str)) (hsc : X.env.scope = defScope s_delayed_size) : PE X (.Name "delayed" pos) (liE X.K CA (mVar 0)) := re_var hn (visS hsc (by decide +kernel))
theorem gl_len_delayed_size {X : Cx} (hsc : X.env.scope = defScope s_delayed_size) : Gl X "len" := glS hsc (by decide +kernel)
theorem gl_max_delayed_size {X : Cx} (hsc : X.env.scope = defScope s_delayed_size) : Gl X "max" := glS hsc (by decide +kernel)
theorem okb_delayed_size (T : Txt K mg CA fa pa fd) (n : Nat) (G : AllOk P w K mg base CA fa fd (n + 1)) (G1 : AllOk P w K mg base CA fa fd n) : FnOk P w K mg base CX0 (n + 2) (fa .delayed_size) (fd .delayed_size) ["delayed"] (spF K CA 1 (runBody (List.length (["delayed"] : List Str)) (b_delayed_size (sem (n + 1)) (sem n)))) := by
  refine def_ok (st := s_delayed_size) (Ns := ["delayed"]) (ps := ["delayed"]) (np := 1) (k := n + 1) (m := b_delayed_size (sem (n + 1)) (sem n)) T.f_delayed_size sc_delayed_size rfl fun X hP hw hK hmg hbase hN hsc hc hfn hr hpo => ?_
  subst hP hw hK hmg hbase
  have hnd : X.N.Nodup := by rw [hN]; exact sc_delayed_size.nd
  have n0 : X.N[0]? = some ("delayed" : Str) := by rw [hN]; rfl
  exact (rss_cons (rs_if (rt_cmp (op_eqAll hr.units) sim_eq (re_ix (ix_all (hu_of hr)) sim_ix (v0_delayed_size n0 hsc) re_int (fun _ _ => rfl)) re_str (nomark _)) (rss_one (rs_ret (re_callB (call_max2 hc) sim_max (gl_max_delayed_size hsc) T.n_max (by decide +kernel) (ra_cons re_int (ra_cons (re_op op_addAll sim_add re_int (re_callB call_lenAll sim_len (gl_len_delayed_size hsc) T.n_len (by decide +kernel) (ra_cons (re_ix (ix_all (hu_of hr)) sim_ix (v0_delayed_size n0 hsc) re_int (fun _ _ => rfl)) ra_nil))) ra_nil))))) rss_nil)
  (rss_one (rs_ret (re_op op_addAll sim_add re_int (re_callB call_lenAll sim_len (gl_len_delayed_size hsc) T.n_len (by decide +kernel) (ra_cons (re_ix (ix_all (hu_of hr)) sim_ix (v0_delayed_size n0 hsc) re_int (fun _ _ => rfl)) ra_nil))))))
theorem ok_delayed_size (T : Txt K mg CA fa pa fd) (n : Nat) (G : AllOk P w K mg base CA fa fd (n + 1)) (G1 : AllOk P w K mg base CA fa fd n) : FnOk P w K mg base CX0 (n + 2) (fa .delayed_size) (fd .delayed_size) (psOf .delayed_size) (spF K CA (npOf .delayed_size) (sem (n + 2) .delayed_size)) := by
  rw [sem_delayed_size]
  exact okb_delayed_size T n G G1
theorem v0_Machine_init {X : Cx} {CA : Nat → Addr} {pos : Pos} (hn : X.N[0]? = some ("self" : Str)) (hsc : X.env.scope = defScope s_Machine_init) : PE X (.Name "self" pos) (liE X.K CA (mVar 0)) := re_var hn (visS hsc (by decide +kernel))
theorem v1_Machine_init {X : Cx} {CA : Nat → Addr} {pos : Pos} (hn : X.N[1]? = some ("program" : Str)) (hsc : X.env.scope = defScope s_Machine_init) : PE X (.Name "program" pos) (liE X.K CA (mVar 1)) := re_var hn (visS hsc (by decide +kernel))
theorem v2_Machine_init {X : Cx} {CA : Nat → Addr} {pos : Pos} (hn : X.N[2]? = some ("room" : Str)) (hsc : X.env.scope = defScope s_Machine_init) : PE X (.Name "room" pos) (liE X.K CA (mVar 2)) := re_var hn (visS hsc (by decide +kernel))
theorem v3_Machine_init {X : Cx} {CA : Nat → Addr} {pos : Pos} (hn : X.N[3]? = some ("at" : Str)) (hsc : X.env.scope = defScope s_Machine_init) : PE X (.Name "at" pos) (liE X.K CA (mVar 3)) := re_var hn (visS hsc (by decide +kernel))
theorem v4_Machine_init {X : Cx} {CA : Nat → Addr} {pos : Pos} (hn : X.N[4]? = some ("arity" : Str)) (hsc : X.env.scope = defScope s_Machine_init) : PE X (.Name "arity" pos) (liE X.K CA (mVar 4)) := re_var hn (visS hsc (by decide +kernel))
theorem v5_Machine_init {X : Cx} {CA : Nat → Addr} {pos : Pos} (hn : X.N[5]? = some ("body" : Str)) (hsc : X.env.scope = defScope s_Machine_init) : PE X (.Name "body" pos) (liE X.K CA (mVar 5)) := re_var hn (visS hsc (by decide +kernel))
theorem gl_Heap_Machine_init {X : Cx} (hsc : X.env.scope = defScope s_Machine_init) : Gl X "Heap" := glS hsc (by decide +kernel)
theorem gl_enumerate_Machine_init {X : Cx} (hsc : X.env.scope = defScope s_Machine_init) : Gl X "enumerate" := glS hsc (by decide +kernel)
theorem gl_len_Machine_init {X : Cx} (hsc : X.env.scope = defScope s_Machine_init) : Gl X "len" := glS hsc (by decide +kernel)
theorem lc_4_Machine_init {X : Cx} (hsc : X.env.scope = defScope s_Machine_init) : L2.Loc X.env.scope "arity" := locS hsc (by decide +kernel)
theorem lc_3_Machine_init {X : Cx} (hsc : X.env.scope = defScope s_Machine_init) : L2.Loc X.env.scope "at" := locS hsc (by decide +kernel)
theorem lc_5_Machine_init {X : Cx} (hsc : X.env.scope = defScope s_Machine_init) : L2.Loc X.env.scope "body" := locS hsc (by decide +kernel)
theorem okb_Machine_init (T : Txt K mg CA fa pa fd) (n : Nat) (G : AllOk P w K mg base CA fa fd (n + 1)) (G1 : AllOk P w K mg base CA fa fd n) : FnOk P w K mg base CX0 (n + 2) (fa .Machine_init) (fd .Machine_init) ["self", "program", "room"] (spF K CA 3 (runBody (List.length (["self", "program", "room", "at", "arity", "body"] : List Str)) (b_Machine_init (sem (n + 1)) (sem n)))) := by
  refine def_ok (st := s_Machine_init) (Ns := ["self", "program", "room", "at", "arity", "body"]) (ps := ["self", "program", "room"]) (np := 3) (k := n + 1) (m := b_Machine_init (sem (n + 1)) (sem n)) T.f_Machine_init sc_Machine_init rfl fun X hP hw hK hmg hbase hN hsc hc hfn hr hpo => ?_
  subst hP hw hK hmg hbase
  have hnd : X.N.Nodup := by rw [hN]; exact sc_Machine_init.nd
  have n0 : X.N[0]? = some ("self" : Str) := by rw [hN]; rfl
  have n1 : X.N[1]? = some ("program" : Str) := by rw [hN]; rfl
  have n2 : X.N[2]? = some ("room" : Str) := by rw [hN]; rfl
  have n3 : X.N[3]? = some ("at" : Str) := by rw [hN]; rfl
  have n4 : X.N[4]? = some ("arity" : Str) := by rw [hN]; rfl
  have n5 : X.N[5]? = some ("body" : Str) := by rw [hN]; rfl
  exact (rss_cons (rs_fld T.c_Machine T.a_Machine_functions (v0_Machine_init n0 hsc) (re_ix (ix_all (hu_of hr)) sim_ix (v1_Machine_init n1 hsc) re_int (fun _ _ => rfl)))
  (rss_cons (rs_fld T.c_Machine T.a_Machine_heap (v0_Machine_init n0 hsc) (re_make T.mk_Heap (G1 .Heap_init) hr (gl_Heap_Machine_init hsc) T.gc_Heap T.b_Heap_init rfl (mCons_len mNil_len) (ra_cons (v2_Machine_init n2 hsc) ra_nil)))
  (rss_cons (rs_for hpo hc (ri_enum (gl_enumerate_Machine_init hsc) T.n_enumerate (re_fld T.c_Machine T.a_Machine_functions (v0_Machine_init n0 hsc))) (pt_tup hc (pts'_cons (pt_name hnd n3 (lc_3_Machine_init hsc) (.inl (hfn _))) (pts'_cons (pt_tup hc (pts'_cons (pt_name hnd n4 (lc_4_Machine_init hsc) (.inl (hfn _))) (pts'_cons (pt_name hnd n5 (lc_5_Machine_init hsc) (.inl (hfn _))) pts'_nil)) rfl) pts'_nil)) rfl) (rss_one (rs_if (rt_cmp (op_eqAll hr.units) sim_eq (v4_Machine_init n4 hsc) re_int (nomark _)) (rss_one (rs_expr (re_meth T.c_Heap T.m_Heap_make (G .Heap_make) hr T.b_Heap_make rfl (mCons_len mNil_len) (re_fld T.c_Machine T.a_Machine_heap (v0_Machine_init n0 hsc)) (ra_cons (re_tup (ra_cons re_str (ra_cons (v5_Machine_init n5 hsc) (ra_cons (re_tup ra_nil) (ra_cons (v3_Machine_init n3 hsc) ra_nil))))) ra_nil)))) (rss_one (rs_expr (re_meth T.c_Heap T.m_Heap_make (G .Heap_make) hr T.b_Heap_make rfl (mCons_len mNil_len) (re_fld T.c_Machine T.a_Machine_heap (v0_Machine_init n0 hsc)) (ra_cons (re_tup (ra_cons re_str (ra_cons (v3_Machine_init n3 hsc) (ra_cons (re_tup ra_nil) ra_nil)))) ra_nil)))))))
  (rss_cons (rs_fld T.c_Machine T.a_Machine_serial (v0_Machine_init n0 hsc) (re_callB call_lenAll sim_len (gl_len_Machine_init hsc) T.n_len (by decide +kernel) (ra_cons (re_fld T.c_Machine T.a_Machine_functions (v0_Machine_init n0 hsc)) ra_nil)))
  (rss_cons (rs_fld T.c_Machine T.a_Machine_stack (v0_Machine_init n0 hsc) (re_ofL (rl_lst (ra_cons (re_tup (ra_cons re_str ra_nil)) ra_nil))))
  (rss_cons (rs_fld T.c_Machine T.a_Machine_now (v0_Machine_init n0 hsc) (re_tup (ra_cons re_str (ra_cons (re_op op_mul sim_mul re_int (re_ix (ix_all (hu_of hr)) sim_ix (v1_Machine_init n1 hsc) re_int (fun _ _ => rfl))) ra_nil))))
  (rss_cons (rs_fld T.c_Machine T.a_Machine_events (v0_Machine_init n0 hsc) (re_ofL (rl_lst ra_nil)))
  (rss_cons (rs_fld T.c_Machine T.a_Machine_entered (v0_Machine_init n0 hsc) (re_ofL (rl_lst ra_nil)))
  (rss_one (rs_fld T.c_Machine T.a_Machine_collections (v0_Machine_init n0 hsc) re_int))))))))))
theorem ok_Machine_init (T : Txt K mg CA fa pa fd) (n : Nat) (G : AllOk P w K mg base CA fa fd (n + 1)) (G1 : AllOk P w K mg base CA fa fd n) : FnOk P w K mg base CX0 (n + 2) (fa .Machine_init) (fd .Machine_init) (psOf .Machine_init) (spF K CA (npOf .Machine_init) (sem (n + 2) .Machine_init)) := by
  rw [sem_Machine_init]
  exact okb_Machine_init T n G G1
theorem v0_Machine_make_members {X : Cx} {CA : Nat → Addr} {pos : Pos} (hn : X.N[0]? = some ("self" : Str)) (hsc : X.env.scope = defScope s_Machine_make_members) : PE X (.Name "self" pos) (liE X.K CA (mVar 0)) := re_var hn (visS hsc (by decide +kernel))
theorem v1_Machine_make_members {X : Cx} {CA : Nat → Addr} {pos : Pos} (hn : X.N[1]? = some ("members" : Str)) (hsc : X.env.scope = defScope s_Machine_make_members) : PE X (.Name "members" pos) (liE X.K CA (mVar 1)) := re_var hn (visS hsc (by decide +kernel))
theorem v2_Machine_make_members {X : Cx} {CA : Nat → Addr} {pos : Pos} (hn : X.N[2]? = some ("words" : Str)) (hsc : X.env.scope = defScope s_Machine_make_members) : PE X (.Name "words" pos) (liE X.K CA (mVar 2)) := re_var hn (visS hsc (by decide +kernel))
theorem v4_Machine_make_members {X : Cx} {CA : Nat → Addr} {pos : Pos} (hn : X.N[4]? = some ("member" : Str)) (hsc : X.env.scope = defScope s_Machine_make_members) : PE X (.Name "member" pos) (liE X.K CA (mVar 4)) := re_var hn (visS hsc (by decide +kernel))
theorem gl_len_Machine_make_members {X : Cx} (hsc : X.env.scope = defScope s_Machine_make_members) : Gl X "len" := glS hsc (by decide +kernel)
theorem gl_operand_words_Machine_make_members {X : Cx} (hsc : X.env.scope = defScope s_Machine_make_members) : Gl X "operand_words" := glS hsc (by decide +kernel)
theorem gl_range_Machine_make_members {X : Cx} (hsc : X.env.scope = defScope s_Machine_make_members) : Gl X "range" := glS hsc (by decide +kernel)
theorem gl_tuple_Machine_make_members {X : Cx} (hsc : X.env.scope = defScope s_Machine_make_members) : Gl X "tuple" := glS hsc (by decide +kernel)
theorem lc_3_Machine_make_members {X : Cx} (hsc : X.env.scope = defScope s_Machine_make_members) : L2.Loc X.env.scope "first" := locS hsc (by decide +kernel)
theorem lc_4_Machine_make_members {X : Cx} (hsc : X.env.scope = defScope s_Machine_make_members) : L2.Loc X.env.scope "member" := locS hsc (by decide +kernel)
theorem lc_2_Machine_make_members {X : Cx} (hsc : X.env.scope = defScope s_Machine_make_members) : L2.Loc X.env.scope "words" := locS hsc (by decide +kernel)
theorem okb_Machine_make_members (T : Txt K mg CA fa pa fd) (n : Nat) (G : AllOk P w K mg base CA fa fd (n + 1)) (G1 : AllOk P w K mg base CA fa fd n) : FnOk P w K mg base CX0 (n + 2) (fa .Machine_make_members) (fd .Machine_make_members) ["self", "members", "words"] (spF K CA 3 (runBody (List.length (["self", "members", "words", "first", "member", "at"] : List Str)) (b_Machine_make_members (sem (n + 1)) (sem n)))) := by
  refine def_ok (st := s_Machine_make_members) (Ns := ["self", "members", "words", "first", "member", "at"]) (ps := ["self", "members", "words"]) (np := 3) (k := n + 1) (m := b_Machine_make_members (sem (n + 1)) (sem n)) T.f_Machine_make_members sc_Machine_make_members rfl fun X hP hw hK hmg hbase hN hsc hc hfn hr hpo => ?_
  subst hP hw hK hmg hbase
  have hnd : X.N.Nodup := by rw [hN]; exact sc_Machine_make_members.nd
  have n0 : X.N[0]? = some ("self" : Str) := by rw [hN]; rfl
  have n1 : X.N[1]? = some ("members" : Str) := by rw [hN]; rfl
  have n2 : X.N[2]? = some ("words" : Str) := by rw [hN]; rfl
  have n3 : X.N[3]? = some ("first" : Str) := by rw [hN]; rfl
  have n4 : X.N[4]? = some ("member" : Str) := by rw [hN]; rfl
  have n5 : X.N[5]? = some ("at" : Str) := by rw [hN]; rfl
  exact (rss_cons (rs_set hnd n3 (lc_3_Machine_make_members hsc) (re_fld T.c_Heap T.a_Heap_next_address (re_fld T.c_Machine T.a_Machine_heap (v0_Machine_make_members n0 hsc))) (hf := .inl (hfn _)))
  (rss_cons (rs_set hnd n2 (lc_2_Machine_make_members hsc) (re_op op_addAll sim_add (v2_Machine_make_members n2 hsc) (re_callTyL call_tuple_of sim_tupL (gl_tuple_Machine_make_members hsc) T.n_tuple (by decide +kernel) (rl_lc (own := [("at", 5)]) hc hnd (ri_range1 (gl_range_Machine_make_members hsc) T.n_range (ra_cons (re_callB call_lenAll sim_len (gl_len_Machine_make_members hsc) T.n_len (by decide +kernel) (ra_cons (v1_Machine_make_members n1 hsc) ra_nil)) ra_nil) (mCons_n mNil_n)) (by rw [hN, hsc]; exact blkOk_by (by decide +kernel)) tgo_name (fun _ _ _ _ _ => (pg_name hnd n5 (locB hsc (by decide +kernel)) (fnB hsc (by decide +kernel)))) (by simp [Tg.slots, Tg.slotss]) (fun _ _ _ _ _ => rts_nil) (fun _ _ _ _ _ => (re_op op_mul sim_mul re_int (re_op op_addAll sim_add (re_var n3 (visB hsc (by decide +kernel))) (re_var n5 (visB hsc (by decide +kernel))))))))) (hf := .inl (hfn _)))
  (rss_cons (rs_for hpo hc (ri_seq (v1_Machine_make_members n1 hsc)) (pt_name hnd n4 (lc_4_Machine_make_members hsc) (.inl (hfn _))) (rss_one (rs_if (rt_cmp (op_eqAll hr.units) sim_eq (re_ix (ix_all (hu_of hr)) sim_ix (v4_Machine_make_members n4 hsc) re_int (fun _ _ => rfl)) re_str (nomark _)) (rss_cons (rs_expr (re_meth T.c_Heap T.m_Heap_make (G .Heap_make) hr T.b_Heap_make rfl (mCons_len mNil_len) (re_fld T.c_Machine T.a_Machine_heap (v0_Machine_make_members n0 hsc)) (ra_cons (re_tup (ra_cons re_str (ra_cons (re_ix (ix_all (hu_of hr)) sim_ix (v4_Machine_make_members n4 hsc) re_int (fun _ _ => rfl)) (ra_cons (re_call (G .operand_words) hr (gl_operand_words_Machine_make_members hsc) T.g_operand_words T.f_operand_words.kp T.b_operand_words rfl (mCons_len (mCons_len mNil_len)) (ra_cons (re_ix (ix_all (hu_of hr)) sim_ix (v4_Machine_make_members n4 hsc) re_int (fun _ _ => rfl)) (ra_cons (v2_Machine_make_members n2 hsc) ra_nil))) (ra_cons (re_fld T.c_Machine T.a_Machine_serial (v0_Machine_make_members n0 hsc)) ra_nil))))) ra_nil)))
  (rss_one (rs_augF in_addG T.c_Machine T.a_Machine_serial (v0_Machine_make_members n0 hsc) re_int))) (rss_one (rs_expr (re_meth T.c_Heap T.m_Heap_make (G .Heap_make) hr T.b_Heap_make rfl (mCons_len mNil_len) (re_fld T.c_Machine T.a_Machine_heap (v0_Machine_make_members n0 hsc)) (ra_cons (re_tup (ra_cons (re_ix (ix_all (hu_of hr)) sim_ix (v4_Machine_make_members n4 hsc) re_int (fun _ _ => rfl)) (ra_cons (re_ix (ix_all (hu_of hr)) sim_ix (v4_Machine_make_members n4 hsc) re_int (fun _ _ => rfl)) (ra_cons (re_call (G .operand_words) hr (gl_operand_words_Machine_make_members hsc) T.g_operand_words T.f_operand_words.kp T.b_operand_words rfl (mCons_len (mCons_len mNil_len)) (ra_cons (re_ix (ix_all (hu_of hr)) sim_ix (v4_Machine_make_members n4 hsc) re_int (fun _ _ => rfl)) (ra_cons (v2_Machine_make_members n2 hsc) ra_nil))) ra_nil)))) ra_nil)))))))
  (rss_one (rs_ret (v2_Machine_make_members n2 hsc))))))
theorem ok_Machine_make_members (T : Txt K mg CA fa pa fd) (n : Nat) (G : AllOk P w K mg base CA fa fd (n + 1)) (G1 : AllOk P w K mg base CA fa fd n) : FnOk P w K mg base CX0 (n + 2) (fa .Machine_make_members) (fd .Machine_make_members) (psOf .Machine_make_members) (spF K CA (npOf .Machine_make_members) (sem (n + 2) .Machine_make_members)) := by
  rw [sem_Machine_make_members]
  exact okb_Machine_make_members T n G G1
theorem v0_Machine_apply {X : Cx} {CA : Nat → Addr} {pos : Pos} (hn : X.N[0]? = some ("self" : Str)) (hsc : X.env.scope = defScope s_Machine_apply) : PE X (.Name "self" pos) (liE X.K CA (mVar 0)) := re_var hn (visS hsc (by decide +kernel))
theorem v1_Machine_apply {X : Cx} {CA : Nat → Addr} {pos : Pos} (hn : X.N[1]? = some ("word" : Str)) (hsc : X.env.scope = defScope s_Machine_apply) : PE X (.Name "word" pos) (liE X.K CA (mVar 1)) := re_var hn (visS hsc (by decide +kernel))
theorem v2_Machine_apply {X : Cx} {CA : Nat → Addr} {pos : Pos} (hn : X.N[2]? = some ("args" : Str)) (hsc : X.env.scope = defScope s_Machine_apply) : PE X (.Name "args" pos) (liE X.K CA (mVar 2)) := re_var hn (visS hsc (by decide +kernel))
theorem v3_Machine_apply {X : Cx} {CA : Nat → Addr} {pos : Pos} (hn : X.N[3]? = some ("part" : Str)) (hsc : X.env.scope = defScope s_Machine_apply) : PE X (.Name "part" pos) (liE X.K CA (mVar 3)) := re_var hn (visS hsc (by decide +kernel))
theorem v4_Machine_apply {X : Cx} {CA : Nat → Addr} {pos : Pos} (hn : X.N[4]? = some ("arity" : Str)) (hsc : X.env.scope = defScope s_Machine_apply) : PE X (.Name "arity" pos) (liE X.K CA (mVar 4)) := re_var hn (visS hsc (by decide +kernel))
theorem v5_Machine_apply {X : Cx} {CA : Nat → Addr} {pos : Pos} (hn : X.N[5]? = some ("body" : Str)) (hsc : X.env.scope = defScope s_Machine_apply) : PE X (.Name "body" pos) (liE X.K CA (mVar 5)) := re_var hn (visS hsc (by decide +kernel))
theorem v6_Machine_apply {X : Cx} {CA : Nat → Addr} {pos : Pos} (hn : X.N[6]? = some ("words" : Str)) (hsc : X.env.scope = defScope s_Machine_apply) : PE X (.Name "words" pos) (liE X.K CA (mVar 6)) := re_var hn (visS hsc (by decide +kernel))
theorem gl_len_Machine_apply {X : Cx} (hsc : X.env.scope = defScope s_Machine_apply) : Gl X "len" := glS hsc (by decide +kernel)
theorem lc_4_Machine_apply {X : Cx} (hsc : X.env.scope = defScope s_Machine_apply) : L2.Loc X.env.scope "arity" := locS hsc (by decide +kernel)
theorem lc_5_Machine_apply {X : Cx} (hsc : X.env.scope = defScope s_Machine_apply) : L2.Loc X.env.scope "body" := locS hsc (by decide +kernel)
theorem lc_3_Machine_apply {X : Cx} (hsc : X.env.scope = defScope s_Machine_apply) : L2.Loc X.env.scope "part" := locS hsc (by decide +kernel)
theorem lc_6_Machine_apply {X : Cx} (hsc : X.env.scope = defScope s_Machine_apply) : L2.Loc X.env.scope "words" := locS hsc (by decide +kernel)
theorem okb_Machine_apply (T : Txt K mg CA fa pa fd) (n : Nat) (G : AllOk P w K mg base CA fa fd (n + 1)) (G1 : AllOk P w K mg base CA fa fd n) : FnOk P w K mg base CX0 (n + 2) (fa .Machine_apply) (fd .Machine_apply) ["self", "word", "args"] (spF K CA 3 (runBody (List.length (["self", "word", "args", "part", "arity", "body", "words"] : List Str)) (b_Machine_apply (sem (n + 1)) (sem n)))) := by
  refine def_ok (st := s_Machine_apply) (Ns := ["self", "word", "args", "part", "arity", "body", "words"]) (ps := ["self", "word", "args"]) (np := 3) (k := n + 1) (m := b_Machine_apply (sem (n + 1)) (sem n)) T.f_Machine_apply sc_Machine_apply rfl fun X hP hw hK hmg hbase hN hsc hc hfn hr hpo => ?_
  subst hP hw hK hmg hbase
  have hnd : X.N.Nodup := by rw [hN]; exact sc_Machine_apply.nd
  have n0 : X.N[0]? = some ("self" : Str) := by rw [hN]; rfl
  have n1 : X.N[1]? = some ("word" : Str) := by rw [hN]; rfl
  have n2 : X.N[2]? = some ("args" : Str) := by rw [hN]; rfl
  have n3 : X.N[3]? = some ("part" : Str) := by rw [hN]; rfl
  have n4 : X.N[4]? = some ("arity" : Str) := by rw [hN]; rfl
  have n5 : X.N[5]? = some ("body" : Str) := by rw [hN]; rfl
  have n6 : X.N[6]? = some ("words" : Str) := by rw [hN]; rfl
  exact (rss_cons (rs_set hnd n3 (lc_3_Machine_apply hsc) (re_meth T.c_Machine T.m_Machine_part_of (G .Machine_part_of) hr T.b_Machine_part_of rfl (mCons_len mNil_len) (v0_Machine_apply n0 hsc) (ra_cons (v1_Machine_apply n1 hsc) ra_nil)) (hf := .inl (hfn _)))
  (rss_cons (rs_if (rt_cmp op_isN sim_isN (v3_Machine_apply n3 hsc) re_non (nomark _)) (rss_cons (rs_fld T.c_Machine T.a_Machine_now (v0_Machine_apply n0 hsc) (re_tup (ra_cons re_str ra_nil)))
  (rss_one rs_retN)) rss_nil)
  (rss_cons (rs_asg (pt_tup hc (pts'_cons (pt_name hnd n4 (lc_4_Machine_apply hsc) (.inl (hfn _))) (pts'_cons (pt_name hnd n5 (lc_5_Machine_apply hsc) (.inl (hfn _))) pts'_nil)) rfl) (re_ix (ix_all (hu_of hr)) sim_ix (re_fld T.c_Machine T.a_Machine_functions (v0_Machine_apply n0 hsc)) (re_ix (ix_all (hu_of hr)) sim_ix (v3_Machine_apply n3 hsc) re_int (fun _ _ => rfl)) (fun _ _ => rfl)))
  (rss_cons (rs_set hnd n6 (lc_6_Machine_apply hsc) (re_op op_addAll sim_add (re_ix (ix_all (hu_of hr)) sim_ix (v3_Machine_apply n3 hsc) re_int (fun _ _ => rfl)) (v2_Machine_apply n2 hsc)) (hf := .inl (hfn _)))
  (rss_cons (rs_if (rt_cmp op_lt (sim_cmp _) (re_callB call_lenAll sim_len (gl_len_Machine_apply hsc) T.n_len (by decide +kernel) (ra_cons (v6_Machine_apply n6 hsc) ra_nil)) (v4_Machine_apply n4 hsc) (nomark _)) (rss_cons (rs_fld T.c_Machine T.a_Machine_now (v0_Machine_apply n0 hsc) (re_tup (ra_cons re_str (ra_cons (re_meth T.c_Machine T.m_Machine_make (G .Machine_make) hr T.b_Machine_make rfl (mCons_len mNil_len) (v0_Machine_apply n0 hsc) (ra_cons (re_tup (ra_cons re_str (ra_cons (re_ix (ix_all (hu_of hr)) sim_ix (v3_Machine_apply n3 hsc) re_int (fun _ _ => rfl)) (ra_cons (v6_Machine_apply n6 hsc) ra_nil)))) ra_nil)) ra_nil))))
  (rss_one rs_retN)) rss_nil)
  (rss_cons (rs_if (rt_cmp op_gt (sim_cmp _) (re_callB call_lenAll sim_len (gl_len_Machine_apply hsc) T.n_len (by decide +kernel) (ra_cons (v6_Machine_apply n6 hsc) ra_nil)) (v4_Machine_apply n4 hsc) (nomark _)) (rss_one (rs_expr (re_bm PySem.F.slot_list_append PySem.F.type_list_append mt_append sim_append (re_fld T.c_Machine T.a_Machine_stack (v0_Machine_apply n0 hsc)) (ra_cons (re_tup (ra_cons re_str (ra_cons (re_slice (v6_Machine_apply n6 hsc) (ro_some (v4_Machine_apply n4 hsc)) ro_none) ra_nil))) ra_nil)))) rss_nil)
  (rss_one (rs_fld T.c_Machine T.a_Machine_now (v0_Machine_apply n0 hsc) (re_tup (ra_cons re_str (ra_cons (v5_Machine_apply n5 hsc) (ra_cons (re_slice (v6_Machine_apply n6 hsc) ro_none (ro_some (v4_Machine_apply n4 hsc))) ra_nil))))))))))))
theorem ok_Machine_apply (T : Txt K mg CA fa pa fd) (n : Nat) (G : AllOk P w K mg base CA fa fd (n + 1)) (G1 : AllOk P w K mg base CA fa fd n) : FnOk P w K mg base CX0 (n + 2) (fa .Machine_apply) (fd .Machine_apply) (psOf .Machine_apply) (spF K CA (npOf .Machine_apply) (sem (n + 2) .Machine_apply)) := by
  rw [sem_Machine_apply]
  exact okb_Machine_apply T n G G1
theorem v0_l_draws {X : Cx} {CA : Nat → Addr} {pos : Pos} (hn : X.N[0]? = some ("_law_script" : Str)) (hsc : X.env.scope = defScope s_l_draws) : PE X (.Name "_law_script" pos) (liE X.K CA (mVar 0)) := re_var hn (visS hsc (by decide +kernel))
theorem v1_l_draws {X : Cx} {CA : Nat → Addr} {pos : Pos} (hn : X.N[1]? = some ("_law_many" : Str)) (hsc : X.env.scope = defScope s_l_draws) : PE X (.Name "_law_many" pos) (liE X.K CA (mVar 1)) := re_var hn (visS hsc (by decide +kernel))
theorem v2_l_draws {X : Cx} {CA : Nat → Addr} {pos : Pos} (hn : X.N[2]? = some ("_law_draws_here" : Str)) (hsc : X.env.scope = defScope s_l_draws) : PE X (.Name "_law_draws_here" pos) (liE X.K CA (mVar 2)) := re_var hn (visS hsc (by decide +kernel))
theorem v3_l_draws {X : Cx} {CA : Nat → Addr} {pos : Pos} (hn : X.N[3]? = some ("_law_mixed" : Str)) (hsc : X.env.scope = defScope s_l_draws) : PE X (.Name "_law_mixed" pos) (liE X.K CA (mVar 3)) := re_var hn (visS hsc (by decide +kernel))
theorem v4_l_draws {X : Cx} {CA : Nat → Addr} {pos : Pos} (hn : X.N[4]? = some ("_law_k" : Str)) (hsc : X.env.scope = defScope s_l_draws) : PE X (.Name "_law_k" pos) (liE X.K CA (mVar 4)) := re_var hn (visS hsc (by decide +kernel))
theorem v5_l_draws {X : Cx} {CA : Nat → Addr} {pos : Pos} (hn : X.N[5]? = some ("_law_cell" : Str)) (hsc : X.env.scope = defScope s_l_draws) : PE X (.Name "_law_cell" pos) (liE X.K CA (mVar 5)) := re_var hn (visS hsc (by decide +kernel))
theorem v6_l_draws {X : Cx} {CA : Nat → Addr} {pos : Pos} (hn : X.N[6]? = some ("_law_rest" : Str)) (hsc : X.env.scope = defScope s_l_draws) : PE X (.Name "_law_rest" pos) (liE X.K CA (mVar 6)) := re_var hn (visS hsc (by decide +kernel))
theorem gl_abs_l_draws {X : Cx} (hsc : X.env.scope = defScope s_l_draws) : Gl X "abs" := glS hsc (by decide +kernel)
theorem gl_int_l_draws {X : Cx} (hsc : X.env.scope = defScope s_l_draws) : Gl X "int" := glS hsc (by decide +kernel)
theorem gl_len_l_draws {X : Cx} (hsc : X.env.scope = defScope s_l_draws) : Gl X "len" := glS hsc (by decide +kernel)
theorem gl_range_l_draws {X : Cx} (hsc : X.env.scope = defScope s_l_draws) : Gl X "range" := glS hsc (by decide +kernel)
theorem lc_5_l_draws {X : Cx} (hsc : X.env.scope = defScope s_l_draws) : L2.Loc X.env.scope "_law_cell" := locS hsc (by decide +kernel)
theorem lc_2_l_draws {X : Cx} (hsc : X.env.scope = defScope s_l_draws) : L2.Loc X.env.scope "_law_draws_here" := locS hsc (by decide +kernel)
theorem lc_4_l_draws {X : Cx} (hsc : X.env.scope = defScope s_l_draws) : L2.Loc X.env.scope "_law_k" := locS hsc (by decide +kernel)
theorem lc_3_l_draws {X : Cx} (hsc : X.env.scope = defScope s_l_draws) : L2.Loc X.env.scope "_law_mixed" := locS hsc (by decide +kernel)
theorem lc_6_l_draws {X : Cx} (hsc : X.env.scope = defScope s_l_draws) : L2.Loc X.env.scope "_law_rest" := locS hsc (by decide +kernel)
theorem lc_7_l_draws {X : Cx} (hsc : X.env.scope = defScope s_l_draws) : L2.Loc X.env.scope "_law_turn" := locS hsc (by decide +kernel)
theorem okb_l_draws (T : Txt K mg CA fa pa fd) (n : Nat) (G : AllOk P w K mg base CA fa fd (n + 1)) (G1 : AllOk P w K mg base CA fa fd n) : FnOk P w K mg base CX0 (n + 2) (fa .l_draws) (fd .l_draws) ["_law_script", "_law_many"] (spF K CA 2 (runBody (List.length (["_law_script", "_law_many", "_law_draws_here", "_law_mixed", "_law_k", "_law_cell", "_law_rest", "_law_turn"] : List Str)) (b_l_draws (sem (n + 1)) (sem n)))) := by
  refine def_ok (st := s_l_draws) (Ns := ["_law_script", "_law_many", "_law_draws_here", "_law_mixed", "_law_k", "_law_cell", "_law_rest", "_law_turn"]) (ps := ["_law_script", "_law_many"]) (np := 2) (k := n + 1) (m := b_l_draws (sem (n + 1)) (sem n)) T.f_l_draws sc_l_draws rfl fun X hP hw hK hmg hbase hN hsc hc hfn hr hpo => ?_
  subst hP hw hK hmg hbase
  have hnd : X.N.Nodup := by rw [hN]; exact sc_l_draws.nd
  have n0 : X.N[0]? = some ("_law_script" : Str) := by rw [hN]; rfl
  have n1 : X.N[1]? = some ("_law_many" : Str) := by rw [hN]; rfl
  have n2 : X.N[2]? = some ("_law_draws_here" : Str) := by rw [hN]; rfl
  have n3 : X.N[3]? = some ("_law_mixed" : Str) := by rw [hN]; rfl
  have n4 : X.N[4]? = some ("_law_k" : Str) := by rw [hN]; rfl
  have n5 : X.N[5]? = some ("_law_cell" : Str) := by rw [hN]; rfl
  have n6 : X.N[6]? = some ("_law_rest" : Str) := by rw [hN]; rfl
  have n7 : X.N[7]? = some ("_law_turn" : Str) := by rw [hN]; rfl
  exact (rss_cons (rs_set hnd n2 (lc_2_l_draws hsc) (re_ofL (rl_lst ra_nil)) (hf := .inl (hfn _)))
  (rss_cons (rs_set hnd n3 (lc_3_l_draws hsc) re_int (hf := .inl (hfn _)))
  (rss_cons (rs_for hpo hc (ri_range1 (gl_range_l_draws hsc) T.n_range (ra_cons (re_callB call_lenAll sim_len (gl_len_l_draws hsc) T.n_len (by decide +kernel) (ra_cons (v0_l_draws n0 hsc) ra_nil)) ra_nil) (mCons_n mNil_n)) (pt_name hnd n4 (lc_4_l_draws hsc) (.inl (hfn _))) (rss_cons (rs_set hnd n5 (lc_5_l_draws hsc) (re_callB call_abs sim_abs (gl_abs_l_draws hsc) T.n_abs (by decide +kernel) (ra_cons (re_callTy call_int1 sim_int (gl_int_l_draws hsc) T.n_int (by decide +kernel) (ra_cons (re_ix (ix_all (hu_of hr)) sim_ix (v0_l_draws n0 hsc) (v4_l_draws n4 hsc) (fun _ _ => rfl)) ra_nil)) ra_nil)) (hf := .inl (hfn _)))
  (rss_cons (rs_set hnd n3 (lc_3_l_draws hsc) (re_op op_modN sim_mod (re_callTy call_int1 sim_int (gl_int_l_draws hsc) T.n_int (by decide +kernel) (ra_cons (re_op op_addAll sim_add (re_op op_addAll sim_add (re_op op_mul sim_mul (v3_l_draws n3 hsc) re_int) (re_op op_modN sim_mod (v5_l_draws n5 hsc) re_int)) (v4_l_draws n4 hsc)) ra_nil)) re_int) (hf := .inl (hfn _)))
  (rss_cons (rs_set hnd n6 (lc_6_l_draws hsc) re_int (hf := .inl (hfn _)))
  (rss_cons (rs_if (rt_cmp op_ge (sim_cmp _) (v5_l_draws n5 hsc) (re_op op_pow sim_pow re_int re_int) (nomark _)) (rss_one (rs_set hnd n6 (lc_6_l_draws hsc) (v5_l_draws n5 hsc) (hf := .inl (hfn _)))) (rss_cons (rs_expr (re_bm PySem.F.slot_list_append PySem.F.type_list_append mt_append sim_append (v2_l_draws n2 hsc) (ra_cons (re_op op_modN sim_mod (re_callTy call_int1 sim_int (gl_int_l_draws hsc) T.n_int (by decide +kernel) (ra_cons (v5_l_draws n5 hsc) ra_nil)) re_int) ra_nil)))
  (rss_one (rs_expr (re_bm PySem.F.slot_list_append PySem.F.type_list_append mt_append sim_append (v2_l_draws n2 hsc) (ra_cons (re_op op_modN sim_mod (re_op op_modN sim_mod (re_callTy call_int1 sim_int (gl_int_l_draws hsc) T.n_int (by decide +kernel) (ra_cons (re_op op_addAll sim_add (re_op op_mul sim_mul (v3_l_draws n3 hsc) re_int) re_int) ra_nil)) re_int) re_int) ra_nil))))))
  (rss_one (rs_for hpo hc (ri_range1 (gl_range_l_draws hsc) T.n_range (ra_cons re_int ra_nil) (mCons_n mNil_n)) (pt_name hnd n7 (lc_7_l_draws hsc) (.inl (hfn _))) (rss_one (rs_if (rt_cmp op_gt (sim_cmp _) (v6_l_draws n6 hsc) re_int (nomark _)) (rss_cons (rs_expr (re_bm PySem.F.slot_list_append PySem.F.type_list_append mt_append sim_append (v2_l_draws n2 hsc) (ra_cons (re_op op_modN sim_mod (re_callTy call_int1 sim_int (gl_int_l_draws hsc) T.n_int (by decide +kernel) (ra_cons (v6_l_draws n6 hsc) ra_nil)) re_int) ra_nil)))
  (rss_one (rs_set hnd n6 (lc_6_l_draws hsc) (re_op op_fdivG sim_div (v6_l_draws n6 hsc) re_int) (hf := .inl (hfn _))))) rss_nil)))))))))
  (rss_cons (rs_for hpo hc (ri_range1 (gl_range_l_draws hsc) T.n_range (ra_cons (v1_l_draws n1 hsc) ra_nil) (mCons_n mNil_n)) (pt_name hnd n4 (lc_4_l_draws hsc) (.inl (hfn _))) (rss_cons (rs_set hnd n3 (lc_3_l_draws hsc) (re_op op_modN sim_mod (re_callTy call_int1 sim_int (gl_int_l_draws hsc) T.n_int (by decide +kernel) (ra_cons (re_op op_addAll sim_add (re_op op_addAll sim_add (re_op op_mul sim_mul (v3_l_draws n3 hsc) re_int) (v4_l_draws n4 hsc)) re_int) ra_nil)) re_int) (hf := .inl (hfn _)))
  (rss_one (rs_expr (re_bm PySem.F.slot_list_append PySem.F.type_list_append mt_append sim_append (v2_l_draws n2 hsc) (ra_cons (re_op op_modN sim_mod (re_callTy call_int1 sim_int (gl_int_l_draws hsc) T.n_int (by decide +kernel) (ra_cons (v3_l_draws n3 hsc) ra_nil)) re_int) ra_nil))))))
  (rss_one (rs_ret (re_slice (v2_l_draws n2 hsc) ro_none (ro_some (v1_l_draws n1 hsc)))))))))
theorem ok_l_draws (T : Txt K mg CA fa pa fd) (n : Nat) (G : AllOk P w K mg base CA fa fd (n + 1)) (G1 : AllOk P w K mg base CA fa fd n) : FnOk P w K mg base CX0 (n + 2) (fa .l_draws) (fd .l_draws) (psOf .l_draws) (spF K CA (npOf .l_draws) (sem (n + 2) .l_draws)) := by
  rw [sem_l_draws]
  exact okb_l_draws T n G G1
end
end Nk66

namespace Nk66
open PySem L2 Nd
section
variable {P : Program} {w : World} {K : PySem.W.Frag} {mg : Str → Option Value} {base : Heap} {CA : Nat → Addr} {fa pa : Fi → Addr} {fd : Fi → FuncData}
theorem v0_Heap_cell {X : Cx} {CA : Nat → Addr} {pos : Pos} (hn : X.N[0]? = some ("self" : Str)) (hsc : X.env.scope = defScope s_Heap_cell) : PE X (.Name "self" pos) (liE X.K CA (mVar 0)) := re_var hn (visS hsc (by decide +kernel))
theorem v1_Heap_cell {X : Cx} {CA : Nat → Addr} {pos : Pos} (hn : X.N[1]? = some ("address" : Str)) (hsc : X.env.scope = defScope s_Heap_cell) : PE X (.Name "address" pos) (liE X.K CA (mVar 1)) := re_var hn (visS hsc (by decide +kernel))
theorem okb_Heap_cell (T : Txt K mg CA fa pa fd) (n : Nat) (G : AllOk P w K mg base CA fa fd (n + 1)) (G1 : AllOk P w K mg base CA fa fd n) : FnOk P w K mg base CX0 (n + 2) (fa .Heap_cell) (fd .Heap_cell) ["self", "address"] (spF K CA 2 (runBody (List.length (["self", "address"] : List Str)) (b_Heap_cell (sem (n + 1)) (sem n)))) := by
  refine def_ok (st := s_Heap_cell) (Ns := ["self", "address"]) (ps := ["self", "address"]) (np := 2) (k := n + 1) (m := b_Heap_cell (sem (n + 1)) (sem n)) T.f_Heap_cell sc_Heap_cell rfl fun X hP hw hK hmg hbase hN hsc hc hfn hr hpo => ?_
  subst hP hw hK hmg hbase
  have hnd : X.N.Nodup := by rw [hN]; exact sc_Heap_cell.nd
  have n0 : X.N[0]? = some ("self" : Str) := by rw [hN]; rfl
  have n1 : X.N[1]? = some ("address" : Str) := by rw [hN]; rfl
  exact (rss_one (rs_ret (re_ix (ix_all (hu_of hr)) sim_ix (re_fld T.c_Heap T.a_Heap__cells (v0_Heap_cell n0 hsc)) (v1_Heap_cell n1 hsc) (fun _ _ => rfl))))
theorem ok_Heap_cell (T : Txt K mg CA fa pa fd) (n : Nat) (G : AllOk P w K mg base CA fa fd (n + 1)) (G1 : AllOk P w K mg base CA fa fd n) : FnOk P w K mg base CX0 (n + 2) (fa .Heap_cell) (fd .Heap_cell) (psOf .Heap_cell) (spF K CA (npOf .Heap_cell) (sem (n + 2) .Heap_cell)) := by
  rw [sem_Heap_cell]
  exact okb_Heap_cell T n G G1
theorem v0_body_size {X : Cx} {CA : Nat → Addr} {pos : Pos} (hn : X.N[0]? = some ("body" : Str)) (hsc : X.env.scope = defScope s_body_size) : PE X (.Name "body" pos) (liE X.K CA (mVar 0)) := re_var hn (visS hsc (by decide +kernel))
theorem gl_len_body_size {X : Cx} (hsc : X.env.scope = defScope s_body_size) : Gl X "len" := glS hsc (by decide +kernel)
theorem gl_sum_body_size {X : Cx} (hsc : X.env.scope = defScope s_body_size) : Gl X "sum" := glS hsc (by decide +kernel)
theorem okb_body_size (T : Txt K mg CA fa pa fd) (n : Nat) (G : AllOk P w K mg base CA fa fd (n + 1)) (G1 : AllOk P w K mg base CA fa fd n) : FnOk P w K mg base CX0 (n + 2) (fa .body_size) (fd .body_size) ["body"] (spF K CA 1 (runBody (List.length (["body", "delayed"] : List Str)) (b_body_size (sem (n + 1)) (sem n)))) := by
  refine def_ok (st := s_body_size) (Ns := ["body", "delayed"]) (ps := ["body"]) (np := 1) (k := n + 1) (m := b_body_size (sem (n + 1)) (sem n)) T.f_body_size sc_body_size rfl fun X hP hw hK hmg hbase hN hsc hc hfn hr hpo => ?_
  subst hP hw hK hmg hbase
  have hnd : X.N.Nodup := by rw [hN]; exact sc_body_size.nd
  have n0 : X.N[0]? = some ("body" : Str) := by rw [hN]; rfl
  have n1 : X.N[1]? = some ("delayed" : Str) := by rw [hN]; rfl
  exact (rss_cons (rs_if (rt_cmp (op_eqAll hr.units) sim_eq (re_ix (ix_all (hu_of hr)) sim_ix (v0_body_size n0 hsc) re_int (fun _ _ => rfl)) re_str (nomark _)) (rss_one (rs_ret (re_op op_addAll sim_add re_int (re_callB call_lenAll sim_len (gl_len_body_size hsc) T.n_len (by decide +kernel) (ra_cons (re_ix (ix_all (hu_of hr)) sim_ix (v0_body_size n0 hsc) re_int (fun _ _ => rfl)) ra_nil))))) rss_nil)
  (rss_cons (rs_if (rt_cmp (op_eqAll hr.units) sim_eq (re_ix (ix_all (hu_of hr)) sim_ix (v0_body_size n0 hsc) re_int (fun _ _ => rfl)) re_str (nomark _)) (rss_one (rs_ret (re_callBL (cr_sum hc) sim_sumL (gl_sum_body_size hsc) T.n_sum (by decide +kernel) (rl_lc (own := [("delayed", 1)]) hc hnd (ri_seq (re_ix (ix_all (hu_of hr)) sim_ix (v0_body_size n0 hsc) re_int (fun _ _ => rfl))) (by rw [hN, hsc]; exact blkOk_by (by decide +kernel)) tgo_name (fun _ _ _ _ _ => (pg_name hnd n1 (locB hsc (by decide +kernel)) (fnB hsc (by decide +kernel)))) (by simp [Tg.slots, Tg.slotss]) (fun _ _ _ _ _ => rts_nil) (fun _ _ _ _ _ => (re_call (G .delayed_size) hr (glB hsc (by decide +kernel)) T.g_delayed_size T.f_delayed_size.kp T.b_delayed_size rfl (mCons_len mNil_len) (ra_cons (re_var n1 (visB hsc (by decide +kernel))) ra_nil))))))) rss_nil)
  (rss_one (rs_ret re_int))))
theorem ok_body_size (T : Txt K mg CA fa pa fd) (n : Nat) (G : AllOk P w K mg base CA fa fd (n + 1)) (G1 : AllOk P w K mg base CA fa fd n) : FnOk P w K mg base CX0 (n + 2) (fa .body_size) (fd .body_size) (psOf .body_size) (spF K CA (npOf .body_size) (sem (n + 2) .body_size)) := by
  rw [sem_body_size]
  exact okb_body_size T n G G1
theorem v0_Machine_stopped {X : Cx} {CA : Nat → Addr} {pos : Pos} (hn : X.N[0]? = some ("self" : Str)) (hsc : X.env.scope = defScope s_Machine_stopped) : PE X (.Name "self" pos) (liE X.K CA (mVar 0)) := re_var hn (visS hsc (by decide +kernel))
theorem gl_ENDS_Machine_stopped {X : Cx} (hsc : X.env.scope = defScope s_Machine_stopped) : Gl X "ENDS" := glS hsc (by decide +kernel)
theorem okb_Machine_stopped (T : Txt K mg CA fa pa fd) (n : Nat) (G : AllOk P w K mg base CA fa fd (n + 1)) (G1 : AllOk P w K mg base CA fa fd n) : FnOk P w K mg base CX0 (n + 2) (fa .Machine_stopped) (fd .Machine_stopped) ["self"] (spF K CA 1 (runBody (List.length (["self"] : List Str)) (b_Machine_stopped (sem (n + 1)) (sem n)))) := by
  refine def_ok (st := s_Machine_stopped) (Ns := ["self"]) (ps := ["self"]) (np := 1) (k := n + 1) (m := b_Machine_stopped (sem (n + 1)) (sem n)) T.f_Machine_stopped sc_Machine_stopped rfl fun X hP hw hK hmg hbase hN hsc hc hfn hr hpo => ?_
  subst hP hw hK hmg hbase
  have hnd : X.N.Nodup := by rw [hN]; exact sc_Machine_stopped.nd
  have n0 : X.N[0]? = some ("self" : Str) := by rw [hN]; rfl
  exact (rss_one (rs_ret (re_cmp (op_inAll (hu_of hr)) (sim_in _) (re_ix (ix_all (hu_of hr)) sim_ix (re_fld T.c_Machine T.a_Machine_now (v0_Machine_stopped n0 hsc)) re_int (fun _ _ => rfl)) (T.r_ENDS _ rfl rfl (gl_ENDS_Machine_stopped hsc)) (by rfl))))
theorem ok_Machine_stopped (T : Txt K mg CA fa pa fd) (n : Nat) (G : AllOk P w K mg base CA fa fd (n + 1)) (G1 : AllOk P w K mg base CA fa fd n) : FnOk P w K mg base CX0 (n + 2) (fa .Machine_stopped) (fd .Machine_stopped) (psOf .Machine_stopped) (spF K CA (npOf .Machine_stopped) (sem (n + 2) .Machine_stopped)) := by
  rw [sem_Machine_stopped]
  exact okb_Machine_stopped T n G G1
theorem v0_Machine_evaluate {X : Cx} {CA : Nat → Addr} {pos : Pos} (hn : X.N[0]? = some ("self" : Str)) (hsc : X.env.scope = defScope s_Machine_evaluate) : PE X (.Name "self" pos) (liE X.K CA (mVar 0)) := re_var hn (visS hsc (by decide +kernel))
theorem v1_Machine_evaluate {X : Cx} {CA : Nat → Addr} {pos : Pos} (hn : X.N[1]? = some ("body" : Str)) (hsc : X.env.scope = defScope s_Machine_evaluate) : PE X (.Name "body" pos) (liE X.K CA (mVar 1)) := re_var hn (visS hsc (by decide +kernel))
theorem v2_Machine_evaluate {X : Cx} {CA : Nat → Addr} {pos : Pos} (hn : X.N[2]? = some ("words" : Str)) (hsc : X.env.scope = defScope s_Machine_evaluate) : PE X (.Name "words" pos) (liE X.K CA (mVar 2)) := re_var hn (visS hsc (by decide +kernel))
theorem v3_Machine_evaluate {X : Cx} {CA : Nat → Addr} {pos : Pos} (hn : X.N[3]? = some ("kind" : Str)) (hsc : X.env.scope = defScope s_Machine_evaluate) : PE X (.Name "kind" pos) (liE X.K CA (mVar 3)) := re_var hn (visS hsc (by decide +kernel))
theorem gl_operand_word_Machine_evaluate {X : Cx} (hsc : X.env.scope = defScope s_Machine_evaluate) : Gl X "operand_word" := glS hsc (by decide +kernel)
theorem gl_operand_words_Machine_evaluate {X : Cx} (hsc : X.env.scope = defScope s_Machine_evaluate) : Gl X "operand_words" := glS hsc (by decide +kernel)
theorem lc_3_Machine_evaluate {X : Cx} (hsc : X.env.scope = defScope s_Machine_evaluate) : L2.Loc X.env.scope "kind" := locS hsc (by decide +kernel)
theorem okb_Machine_evaluate (T : Txt K mg CA fa pa fd) (n : Nat) (G : AllOk P w K mg base CA fa fd (n + 1)) (G1 : AllOk P w K mg base CA fa fd n) : FnOk P w K mg base CX0 (n + 2) (fa .Machine_evaluate) (fd .Machine_evaluate) ["self", "body", "words"] (spF K CA 3 (runBody (List.length (["self", "body", "words", "kind"] : List Str)) (b_Machine_evaluate (sem (n + 1)) (sem n)))) := by
  refine def_ok (st := s_Machine_evaluate) (Ns := ["self", "body", "words", "kind"]) (ps := ["self", "body", "words"]) (np := 3) (k := n + 1) (m := b_Machine_evaluate (sem (n + 1)) (sem n)) T.f_Machine_evaluate sc_Machine_evaluate rfl fun X hP hw hK hmg hbase hN hsc hc hfn hr hpo => ?_
  subst hP hw hK hmg hbase
  have hnd : X.N.Nodup := by rw [hN]; exact sc_Machine_evaluate.nd
  have n0 : X.N[0]? = some ("self" : Str) := by rw [hN]; rfl
  have n1 : X.N[1]? = some ("body" : Str) := by rw [hN]; rfl
  have n2 : X.N[2]? = some ("words" : Str) := by rw [hN]; rfl
  have n3 : X.N[3]? = some ("kind" : Str) := by rw [hN]; rfl
  exact (rss_cons (rs_set hnd n3 (lc_3_Machine_evaluate hsc) (re_ix (ix_all (hu_of hr)) sim_ix (v1_Machine_evaluate n1 hsc) re_int (fun _ _ => rfl)) (hf := .inl (hfn _)))
  (rss_one (rs_if (rt_cmp (op_eqAll hr.units) sim_eq (v3_Machine_evaluate n3 hsc) re_str (nomark _)) (rss_one (rs_fld T.c_Machine T.a_Machine_now (v0_Machine_evaluate n0 hsc) (re_tup (ra_cons re_str (ra_cons (re_call (G .operand_word) hr (gl_operand_word_Machine_evaluate hsc) T.g_operand_word T.f_operand_word.kp T.b_operand_word rfl (mCons_len (mCons_len mNil_len)) (ra_cons (re_ix (ix_all (hu_of hr)) sim_ix (v1_Machine_evaluate n1 hsc) re_int (fun _ _ => rfl)) (ra_cons (v2_Machine_evaluate n2 hsc) ra_nil))) ra_nil))))) (rss_one (rs_if (rt_cmp (op_eqAll hr.units) sim_eq (v3_Machine_evaluate n3 hsc) re_str (nomark _)) (rss_cons (rs_expr (re_bm PySem.F.slot_list_append PySem.F.type_list_append mt_append sim_append (re_fld T.c_Machine T.a_Machine_stack (v0_Machine_evaluate n0 hsc)) (ra_cons (re_tup (ra_cons re_str (ra_cons (re_call (G .operand_words) hr (gl_operand_words_Machine_evaluate hsc) T.g_operand_words T.f_operand_words.kp T.b_operand_words rfl (mCons_len (mCons_len mNil_len)) (ra_cons (re_ix (ix_all (hu_of hr)) sim_ix (v1_Machine_evaluate n1 hsc) re_int (fun _ _ => rfl)) (ra_cons (v2_Machine_evaluate n2 hsc) ra_nil))) ra_nil))) ra_nil)))
  (rss_one (rs_fld T.c_Machine T.a_Machine_now (v0_Machine_evaluate n0 hsc) (re_tup (ra_cons re_str (ra_cons (re_call (G .operand_word) hr (gl_operand_word_Machine_evaluate hsc) T.g_operand_word T.f_operand_word.kp T.b_operand_word rfl (mCons_len (mCons_len mNil_len)) (ra_cons (re_ix (ix_all (hu_of hr)) sim_ix (v1_Machine_evaluate n1 hsc) re_int (fun _ _ => rfl)) (ra_cons (v2_Machine_evaluate n2 hsc) ra_nil))) ra_nil)))))) (rss_one (rs_if (rt_cmp (op_eqAll hr.units) sim_eq (v3_Machine_evaluate n3 hsc) re_str (nomark _)) (rss_one (rs_fld T.c_Machine T.a_Machine_now (v0_Machine_evaluate n0 hsc) (re_tup (ra_cons re_str (ra_cons (re_meth T.c_Machine T.m_Machine_make (G .Machine_make) hr T.b_Machine_make rfl (mCons_len mNil_len) (v0_Machine_evaluate n0 hsc) (ra_cons (re_tup (ra_cons re_str (ra_cons (re_ix (ix_all (hu_of hr)) sim_ix (v1_Machine_evaluate n1 hsc) re_int (fun _ _ => rfl)) (ra_cons (re_call (G .operand_words) hr (gl_operand_words_Machine_evaluate hsc) T.g_operand_words T.f_operand_words.kp T.b_operand_words rfl (mCons_len (mCons_len mNil_len)) (ra_cons (re_ix (ix_all (hu_of hr)) sim_ix (v1_Machine_evaluate n1 hsc) re_int (fun _ _ => rfl)) (ra_cons (v2_Machine_evaluate n2 hsc) ra_nil))) ra_nil)))) ra_nil)) ra_nil))))) (rss_one (rs_if (rt_cmp (op_eqAll hr.units) sim_eq (v3_Machine_evaluate n3 hsc) re_str (nomark _)) (rss_cons (rs_expr (re_bm PySem.F.slot_list_append PySem.F.type_list_append mt_append sim_append (re_fld T.c_Machine T.a_Machine_stack (v0_Machine_evaluate n0 hsc)) (ra_cons (re_tup (ra_cons re_str (ra_cons (re_ix (ix_all (hu_of hr)) sim_ix (v1_Machine_evaluate n1 hsc) re_int (fun _ _ => rfl)) (ra_cons (re_ix (ix_all (hu_of hr)) sim_ix (v1_Machine_evaluate n1 hsc) re_int (fun _ _ => rfl)) (ra_cons (v2_Machine_evaluate n2 hsc) ra_nil))))) ra_nil)))
  (rss_one (rs_fld T.c_Machine T.a_Machine_now (v0_Machine_evaluate n0 hsc) (re_tup (ra_cons re_str (ra_cons (re_call (G .operand_word) hr (gl_operand_word_Machine_evaluate hsc) T.g_operand_word T.f_operand_word.kp T.b_operand_word rfl (mCons_len (mCons_len mNil_len)) (ra_cons (re_ix (ix_all (hu_of hr)) sim_ix (v1_Machine_evaluate n1 hsc) re_int (fun _ _ => rfl)) (ra_cons (v2_Machine_evaluate n2 hsc) ra_nil))) ra_nil)))))) (rss_one (rs_if (rt_cmp (op_eqAll hr.units) sim_eq (v3_Machine_evaluate n3 hsc) re_str (nomark _)) (rss_one (rs_fld T.c_Machine T.a_Machine_now (v0_Machine_evaluate n0 hsc) (re_tup (ra_cons re_str (ra_cons (re_ix (ix_all (hu_of hr)) sim_ix (v1_Machine_evaluate n1 hsc) re_int (fun _ _ => rfl)) (ra_cons (re_meth T.c_Machine T.m_Machine_make_members (G .Machine_make_members) hr T.b_Machine_make_members rfl (mCons_len (mCons_len mNil_len)) (v0_Machine_evaluate n0 hsc) (ra_cons (re_ix (ix_all (hu_of hr)) sim_ix (v1_Machine_evaluate n1 hsc) re_int (fun _ _ => rfl)) (ra_cons (v2_Machine_evaluate n2 hsc) ra_nil))) ra_nil)))))) (rss_one (rs_if (rt_cmp (op_eqAll hr.units) sim_eq (v3_Machine_evaluate n3 hsc) re_str (nomark _)) (rss_cons (rs_expr (re_bm PySem.F.slot_list_append PySem.F.type_list_append mt_append sim_append (re_fld T.c_Machine T.a_Machine_events (v0_Machine_evaluate n0 hsc)) (ra_cons (re_tup (ra_cons re_str (ra_cons (re_ix (ix_all (hu_of hr)) sim_ix (v1_Machine_evaluate n1 hsc) re_int (fun _ _ => rfl)) ra_nil))) ra_nil)))
  (rss_one (rs_fld T.c_Machine T.a_Machine_now (v0_Machine_evaluate n0 hsc) (re_tup (ra_cons re_str (ra_cons (re_ix (ix_all (hu_of hr)) sim_ix (v1_Machine_evaluate n1 hsc) re_int (fun _ _ => rfl)) (ra_cons (v2_Machine_evaluate n2 hsc) ra_nil))))))) (rss_one (rs_if (rt_cmp (op_eqAll hr.units) sim_eq (v3_Machine_evaluate n3 hsc) re_str (nomark _)) (rss_cons (rs_expr (re_bm PySem.F.slot_list_append PySem.F.type_list_append mt_append sim_append (re_fld T.c_Machine T.a_Machine_stack (v0_Machine_evaluate n0 hsc)) (ra_cons (re_tup (ra_cons re_str (ra_cons (re_ix (ix_all (hu_of hr)) sim_ix (v1_Machine_evaluate n1 hsc) re_int (fun _ _ => rfl)) (ra_cons (v2_Machine_evaluate n2 hsc) ra_nil)))) ra_nil)))
  (rss_one (rs_fld T.c_Machine T.a_Machine_now (v0_Machine_evaluate n0 hsc) (re_tup (ra_cons re_str (ra_cons (re_ix (ix_all (hu_of hr)) sim_ix (v1_Machine_evaluate n1 hsc) re_int (fun _ _ => rfl)) (ra_cons (v2_Machine_evaluate n2 hsc) ra_nil))))))) (rss_cons (rs_expr (re_bm PySem.F.slot_list_append PySem.F.type_list_append mt_append sim_append (re_fld T.c_Machine T.a_Machine_stack (v0_Machine_evaluate n0 hsc)) (ra_cons (re_tup (ra_cons (v3_Machine_evaluate n3 hsc) (ra_cons (re_ix (ix_all (hu_of hr)) sim_ix (v1_Machine_evaluate n1 hsc) re_int (fun _ _ => rfl)) (ra_cons (re_ix (ix_all (hu_of hr)) sim_ix (v1_Machine_evaluate n1 hsc) re_int (fun _ _ => rfl)) (ra_cons (v2_Machine_evaluate n2 hsc) ra_nil))))) ra_nil)))
  (rss_one (rs_fld T.c_Machine T.a_Machine_now (v0_Machine_evaluate n0 hsc) (re_tup (ra_cons re_str (ra_cons (re_ix (ix_all (hu_of hr)) sim_ix (v1_Machine_evaluate n1 hsc) re_int (fun _ _ => rfl)) (ra_cons (v2_Machine_evaluate n2 hsc) ra_nil))))))))))))))))))))))
theorem ok_Machine_evaluate (T : Txt K mg CA fa pa fd) (n : Nat) (G : AllOk P w K mg base CA fa fd (n + 1)) (G1 : AllOk P w K mg base CA fa fd n) : FnOk P w K mg base CX0 (n + 2) (fa .Machine_evaluate) (fd .Machine_evaluate) (psOf .Machine_evaluate) (spF K CA (npOf .Machine_evaluate) (sem (n + 2) .Machine_evaluate)) := by
  rw [sem_Machine_evaluate]
  exact okb_Machine_evaluate T n G G1
theorem v0_Machine_meet_number {X : Cx} {CA : Nat → Addr} {pos : Pos} (hn : X.N[0]? = some ("self" : Str)) (hsc : X.env.scope = defScope s_Machine_meet_number) : PE X (.Name "self" pos) (liE X.K CA (mVar 0)) := re_var hn (visS hsc (by decide +kernel))
theorem v1_Machine_meet_number {X : Cx} {CA : Nat → Addr} {pos : Pos} (hn : X.N[1]? = some ("number" : Str)) (hsc : X.env.scope = defScope s_Machine_meet_number) : PE X (.Name "number" pos) (liE X.K CA (mVar 1)) := re_var hn (visS hsc (by decide +kernel))
theorem v2_Machine_meet_number {X : Cx} {CA : Nat → Addr} {pos : Pos} (hn : X.N[2]? = some ("frame" : Str)) (hsc : X.env.scope = defScope s_Machine_meet_number) : PE X (.Name "frame" pos) (liE X.K CA (mVar 2)) := re_var hn (visS hsc (by decide +kernel))
theorem v3_Machine_meet_number {X : Cx} {CA : Nat → Addr} {pos : Pos} (hn : X.N[3]? = some ("kind" : Str)) (hsc : X.env.scope = defScope s_Machine_meet_number) : PE X (.Name "kind" pos) (liE X.K CA (mVar 3)) := re_var hn (visS hsc (by decide +kernel))
theorem v4_Machine_meet_number {X : Cx} {CA : Nat → Addr} {pos : Pos} (hn : X.N[4]? = some ("body" : Str)) (hsc : X.env.scope = defScope s_Machine_meet_number) : PE X (.Name "body" pos) (liE X.K CA (mVar 4)) := re_var hn (visS hsc (by decide +kernel))
theorem gl_chosen_pick_Machine_meet_number {X : Cx} (hsc : X.env.scope = defScope s_Machine_meet_number) : Gl X "chosen_pick" := glS hsc (by decide +kernel)
theorem gl_operand_word_Machine_meet_number {X : Cx} (hsc : X.env.scope = defScope s_Machine_meet_number) : Gl X "operand_word" := glS hsc (by decide +kernel)
theorem lc_4_Machine_meet_number {X : Cx} (hsc : X.env.scope = defScope s_Machine_meet_number) : L2.Loc X.env.scope "body" := locS hsc (by decide +kernel)
theorem lc_3_Machine_meet_number {X : Cx} (hsc : X.env.scope = defScope s_Machine_meet_number) : L2.Loc X.env.scope "kind" := locS hsc (by decide +kernel)
theorem okb_Machine_meet_number (T : Txt K mg CA fa pa fd) (n : Nat) (G : AllOk P w K mg base CA fa fd (n + 1)) (G1 : AllOk P w K mg base CA fa fd n) : FnOk P w K mg base CX0 (n + 2) (fa .Machine_meet_number) (fd .Machine_meet_number) ["self", "number", "frame"] (spF K CA 3 (runBody (List.length (["self", "number", "frame", "kind", "body"] : List Str)) (b_Machine_meet_number (sem (n + 1)) (sem n)))) := by
  refine def_ok (st := s_Machine_meet_number) (Ns := ["self", "number", "frame", "kind", "body"]) (ps := ["self", "number", "frame"]) (np := 3) (k := n + 1) (m := b_Machine_meet_number (sem (n + 1)) (sem n)) T.f_Machine_meet_number sc_Machine_meet_number rfl fun X hP hw hK hmg hbase hN hsc hc hfn hr hpo => ?_
  subst hP hw hK hmg hbase
  have hnd : X.N.Nodup := by rw [hN]; exact sc_Machine_meet_number.nd
  have n0 : X.N[0]? = some ("self" : Str) := by rw [hN]; rfl
  have n1 : X.N[1]? = some ("number" : Str) := by rw [hN]; rfl
  have n2 : X.N[2]? = some ("frame" : Str) := by rw [hN]; rfl
  have n3 : X.N[3]? = some ("kind" : Str) := by rw [hN]; rfl
  have n4 : X.N[4]? = some ("body" : Str) := by rw [hN]; rfl
  exact (rss_cons (rs_set hnd n3 (lc_3_Machine_meet_number hsc) (re_ix (ix_all (hu_of hr)) sim_ix (v2_Machine_meet_number n2 hsc) re_int (fun _ _ => rfl)) (hf := .inl (hfn _)))
  (rss_one (rs_if (rt_cmp (op_eqAll hr.units) sim_eq (v3_Machine_meet_number n3 hsc) re_str (nomark _)) (rss_cons (rs_expr (re_bm PySem.F.slot_list_append PySem.F.type_list_append mt_append sim_append (re_fld T.c_Machine T.a_Machine_events (v0_Machine_meet_number n0 hsc)) (ra_cons (re_tup (ra_cons re_str (ra_cons (v1_Machine_meet_number n1 hsc) ra_nil))) ra_nil)))
  (rss_cons (rs_expr (re_bm PySem.F.slot_list_append PySem.F.type_list_append mt_append sim_append (re_fld T.c_Machine T.a_Machine_stack (v0_Machine_meet_number n0 hsc)) (ra_cons (re_tup (ra_cons re_str ra_nil)) ra_nil)))
  (rss_one (rs_fld T.c_Machine T.a_Machine_now (v0_Machine_meet_number n0 hsc) (re_tup (ra_cons re_str (ra_cons (re_ix (ix_all (hu_of hr)) sim_ix (v2_Machine_meet_number n2 hsc) re_int (fun _ _ => rfl)) ra_nil))))))) (rss_one (rs_if (rt_cmp (op_eqAll hr.units) sim_eq (v3_Machine_meet_number n3 hsc) re_str (nomark _)) (rss_cons (rs_set hnd n4 (lc_4_Machine_meet_number hsc) (re_call (G .chosen_pick) hr (gl_chosen_pick_Machine_meet_number hsc) T.g_chosen_pick T.f_chosen_pick.kp T.b_chosen_pick rfl (mCons_len (mCons_len mNil_len)) (ra_cons (v1_Machine_meet_number n1 hsc) (ra_cons (re_ix (ix_all (hu_of hr)) sim_ix (v2_Machine_meet_number n2 hsc) re_int (fun _ _ => rfl)) ra_nil))) (hf := .inl (hfn _)))
  (rss_one (rs_if (rt_cmp op_notN sim_notN (v4_Machine_meet_number n4 hsc) re_non (nomark _)) (rss_one (rs_fld T.c_Machine T.a_Machine_now (v0_Machine_meet_number n0 hsc) (re_tup (ra_cons re_str (ra_cons (v4_Machine_meet_number n4 hsc) (ra_cons (re_ix (ix_all (hu_of hr)) sim_ix (v2_Machine_meet_number n2 hsc) re_int (fun _ _ => rfl)) ra_nil)))))) (rss_one (rs_expr (re_meth T.c_Machine T.m_Machine_meet_default (G .Machine_meet_default) hr T.b_Machine_meet_default rfl (mCons_len (mCons_len mNil_len)) (v0_Machine_meet_number n0 hsc) (ra_cons (re_op op_addAll sim_add (re_op op_mul sim_mul re_int (v1_Machine_meet_number n1 hsc)) re_int) (ra_cons (v2_Machine_meet_number n2 hsc) ra_nil)))))))) (rss_one (rs_if (rt_cmp (op_eqAll hr.units) sim_eq (v3_Machine_meet_number n3 hsc) re_str (nomark _)) (rss_cons (rs_expr (re_bm PySem.F.slot_list_append PySem.F.type_list_append mt_append sim_append (re_fld T.c_Machine T.a_Machine_stack (v0_Machine_meet_number n0 hsc)) (ra_cons (re_tup (ra_cons re_str (ra_cons (re_ix (ix_all (hu_of hr)) sim_ix (v2_Machine_meet_number n2 hsc) re_int (fun _ _ => rfl)) (ra_cons (v1_Machine_meet_number n1 hsc) ra_nil)))) ra_nil)))
  (rss_one (rs_fld T.c_Machine T.a_Machine_now (v0_Machine_meet_number n0 hsc) (re_tup (ra_cons re_str (ra_cons (re_call (G .operand_word) hr (gl_operand_word_Machine_meet_number hsc) T.g_operand_word T.f_operand_word.kp T.b_operand_word rfl (mCons_len (mCons_len mNil_len)) (ra_cons (re_ix (ix_all (hu_of hr)) sim_ix (v2_Machine_meet_number n2 hsc) re_int (fun _ _ => rfl)) (ra_cons (re_ix (ix_all (hu_of hr)) sim_ix (v2_Machine_meet_number n2 hsc) re_int (fun _ _ => rfl)) ra_nil))) ra_nil)))))) (rss_one (rs_if (rt_cmp (op_eqAll hr.units) sim_eq (v3_Machine_meet_number n3 hsc) re_str (nomark _)) (rss_one (rs_expr (re_meth T.c_Machine T.m_Machine_meet_second (G .Machine_meet_second) hr T.b_Machine_meet_second rfl (mCons_len (mCons_len (mCons_len mNil_len))) (v0_Machine_meet_number n0 hsc) (ra_cons (re_ix (ix_all (hu_of hr)) sim_ix (v2_Machine_meet_number n2 hsc) re_int (fun _ _ => rfl)) (ra_cons (re_ix (ix_all (hu_of hr)) sim_ix (v2_Machine_meet_number n2 hsc) re_int (fun _ _ => rfl)) (ra_cons (v1_Machine_meet_number n1 hsc) ra_nil)))))) (rss_one (rs_fld T.c_Machine T.a_Machine_now (v0_Machine_meet_number n0 hsc) (re_tup (ra_cons re_str ra_nil)))))))))))))
theorem ok_Machine_meet_number (T : Txt K mg CA fa pa fd) (n : Nat) (G : AllOk P w K mg base CA fa fd (n + 1)) (G1 : AllOk P w K mg base CA fa fd n) : FnOk P w K mg base CX0 (n + 2) (fa .Machine_meet_number) (fd .Machine_meet_number) (psOf .Machine_meet_number) (spF K CA (npOf .Machine_meet_number) (sem (n + 2) .Machine_meet_number)) := by
  rw [sem_Machine_meet_number]
  exact okb_Machine_meet_number T n G G1
theorem v0_l_next {X : Cx} {CA : Nat → Addr} {pos : Pos} (hn : X.N[0]? = some ("_law_w" : Str)) (hsc : X.env.scope = defScope s_l_next) : PE X (.Name "_law_w" pos) (liE X.K CA (mVar 0)) := re_var hn (visS hsc (by decide +kernel))
theorem v1_l_next {X : Cx} {CA : Nat → Addr} {pos : Pos} (hn : X.N[1]? = some ("_law_many" : Str)) (hsc : X.env.scope = defScope s_l_next) : PE X (.Name "_law_many" pos) (liE X.K CA (mVar 1)) := re_var hn (visS hsc (by decide +kernel))
theorem gl_int_l_next {X : Cx} (hsc : X.env.scope = defScope s_l_next) : Gl X "int" := glS hsc (by decide +kernel)
theorem gl_len_l_next {X : Cx} (hsc : X.env.scope = defScope s_l_next) : Gl X "len" := glS hsc (by decide +kernel)
theorem okb_l_next (T : Txt K mg CA fa pa fd) (n : Nat) (G : AllOk P w K mg base CA fa fd (n + 1)) (G1 : AllOk P w K mg base CA fa fd n) : FnOk P w K mg base CX0 (n + 2) (fa .l_next) (fd .l_next) ["_law_w", "_law_many"] (spF K CA 2 (runBody (List.length (["_law_w", "_law_many"] : List Str)) (b_l_next (sem (n + 1)) (sem n)))) := by
  refine def_ok (st := s_l_next) (Ns := ["_law_w", "_law_many"]) (ps := ["_law_w", "_law_many"]) (np := 2) (k := n + 1) (m := b_l_next (sem (n + 1)) (sem n)) T.f_l_next sc_l_next rfl fun X hP hw hK hmg hbase hN hsc hc hfn hr hpo => ?_
  subst hP hw hK hmg hbase
  have hnd : X.N.Nodup := by rw [hN]; exact sc_l_next.nd
  have n0 : X.N[0]? = some ("_law_w" : Str) := by rw [hN]; rfl
  have n1 : X.N[1]? = some ("_law_many" : Str) := by rw [hN]; rfl
  exact (rss_cons (rs_augD in_addG (hu_of hr) (v0_l_next n0 hsc) re_str re_int)
  (rss_cons (rs_if (rt_cmp op_gt (sim_cmp _) (re_ix (ix_all (hu_of hr)) sim_ix (v0_l_next n0 hsc) re_str (fun _ _ => rfl)) (re_callB call_lenAll sim_len (gl_len_l_next hsc) T.n_len (by decide +kernel) (ra_cons (re_ix (ix_all (hu_of hr)) sim_ix (v0_l_next n0 hsc) re_str (fun _ _ => rfl)) ra_nil)) (nomark _)) (rss_one (rs_ret re_int)) rss_nil)
  (rss_one (rs_ret (re_op op_modN sim_mod (re_callTy call_int1 sim_int (gl_int_l_next hsc) T.n_int (by decide +kernel) (ra_cons (re_ix (ix_all (hu_of hr)) sim_ix (re_ix (ix_all (hu_of hr)) sim_ix (v0_l_next n0 hsc) re_str (fun _ _ => rfl)) (re_op op_sub sim_sub (re_ix (ix_all (hu_of hr)) sim_ix (v0_l_next n0 hsc) re_str (fun _ _ => rfl)) re_int) (fun _ _ => rfl)) ra_nil)) (v1_l_next n1 hsc))))))
theorem ok_l_next (T : Txt K mg CA fa pa fd) (n : Nat) (G : AllOk P w K mg base CA fa fd (n + 1)) (G1 : AllOk P w K mg base CA fa fd n) : FnOk P w K mg base CX0 (n + 2) (fa .l_next) (fd .l_next) (psOf .l_next) (spF K CA (npOf .l_next) (sem (n + 2) .l_next)) := by
  rw [sem_l_next]
  exact okb_l_next T n G G1
end
end Nk66

namespace Nk66
open PySem L2 Nd
section
variable {P : Program} {w : World} {K : PySem.W.Frag} {mg : Str → Option Value} {base : Heap} {CA : Nat → Addr} {fa pa : Fi → Addr} {fd : Fi → FuncData}
theorem v0_Heap_put {X : Cx} {CA : Nat → Addr} {pos : Pos} (hn : X.N[0]? = some ("self" : Str)) (hsc : X.env.scope = defScope s_Heap_put) : PE X (.Name "self" pos) (liE X.K CA (mVar 0)) := re_var hn (visS hsc (by decide +kernel))
theorem v1_Heap_put {X : Cx} {CA : Nat → Addr} {pos : Pos} (hn : X.N[1]? = some ("address" : Str)) (hsc : X.env.scope = defScope s_Heap_put) : PE X (.Name "address" pos) (liE X.K CA (mVar 1)) := re_var hn (visS hsc (by decide +kernel))
theorem v2_Heap_put {X : Cx} {CA : Nat → Addr} {pos : Pos} (hn : X.N[2]? = some ("cell" : Str)) (hsc : X.env.scope = defScope s_Heap_put) : PE X (.Name "cell" pos) (liE X.K CA (mVar 2)) := re_var hn (visS hsc (by decide +kernel))
theorem gl_size_of_Heap_put {X : Cx} (hsc : X.env.scope = defScope s_Heap_put) : Gl X "size_of" := glS hsc (by decide +kernel)
theorem okb_Heap_put (T : Txt K mg CA fa pa fd) (n : Nat) (G : AllOk P w K mg base CA fa fd (n + 1)) (G1 : AllOk P w K mg base CA fa fd n) : FnOk P w K mg base CX0 (n + 2) (fa .Heap_put) (fd .Heap_put) ["self", "address", "cell"] (spF K CA 3 (runBody (List.length (["self", "address", "cell"] : List Str)) (b_Heap_put (sem (n + 1)) (sem n)))) := by
  refine def_ok (st := s_Heap_put) (Ns := ["self", "address", "cell"]) (ps := ["self", "address", "cell"]) (np := 3) (k := n + 1) (m := b_Heap_put (sem (n + 1)) (sem n)) T.f_Heap_put sc_Heap_put rfl fun X hP hw hK hmg hbase hN hsc hc hfn hr hpo => ?_
  subst hP hw hK hmg hbase
  have hnd : X.N.Nodup := by rw [hN]; exact sc_Heap_put.nd
  have n0 : X.N[0]? = some ("self" : Str) := by rw [hN]; rfl
  have n1 : X.N[1]? = some ("address" : Str) := by rw [hN]; rfl
  have n2 : X.N[2]? = some ("cell" : Str) := by rw [hN]; rfl
  exact (rss_cons (rs_augF in_addG T.c_Heap T.a_Heap_used (v0_Heap_put n0 hsc) (re_op op_sub sim_sub (re_call (G .size_of) hr (gl_size_of_Heap_put hsc) T.g_size_of T.f_size_of.kp T.b_size_of rfl (mCons_len mNil_len) (ra_cons (v2_Heap_put n2 hsc) ra_nil)) (re_call (G .size_of) hr (gl_size_of_Heap_put hsc) T.g_size_of T.f_size_of.kp T.b_size_of rfl (mCons_len mNil_len) (ra_cons (re_ix (ix_all (hu_of hr)) sim_ix (re_fld T.c_Heap T.a_Heap__cells (v0_Heap_put n0 hsc)) (v1_Heap_put n1 hsc) (fun _ _ => rfl)) ra_nil))))
  (rss_one (rs_putD (hu_of hr) (re_fld T.c_Heap T.a_Heap__cells (v0_Heap_put n0 hsc)) (v1_Heap_put n1 hsc) (v2_Heap_put n2 hsc))))
theorem ok_Heap_put (T : Txt K mg CA fa pa fd) (n : Nat) (G : AllOk P w K mg base CA fa fd (n + 1)) (G1 : AllOk P w K mg base CA fa fd n) : FnOk P w K mg base CX0 (n + 2) (fa .Heap_put) (fd .Heap_put) (psOf .Heap_put) (spF K CA (npOf .Heap_put) (sem (n + 2) .Heap_put)) := by
  rw [sem_Heap_put]
  exact okb_Heap_put T n G G1
theorem v0_arithmetic {X : Cx} {CA : Nat → Addr} {pos : Pos} (hn : X.N[0]? = some ("sign" : Str)) (hsc : X.env.scope = defScope s_arithmetic) : PE X (.Name "sign" pos) (liE X.K CA (mVar 0)) := re_var hn (visS hsc (by decide +kernel))
theorem v1_arithmetic {X : Cx} {CA : Nat → Addr} {pos : Pos} (hn : X.N[1]? = some ("left" : Str)) (hsc : X.env.scope = defScope s_arithmetic) : PE X (.Name "left" pos) (liE X.K CA (mVar 1)) := re_var hn (visS hsc (by decide +kernel))
theorem v2_arithmetic {X : Cx} {CA : Nat → Addr} {pos : Pos} (hn : X.N[2]? = some ("right" : Str)) (hsc : X.env.scope = defScope s_arithmetic) : PE X (.Name "right" pos) (liE X.K CA (mVar 2)) := re_var hn (visS hsc (by decide +kernel))
theorem gl_int_arithmetic {X : Cx} (hsc : X.env.scope = defScope s_arithmetic) : Gl X "int" := glS hsc (by decide +kernel)
theorem okb_arithmetic (T : Txt K mg CA fa pa fd) (n : Nat) (G : AllOk P w K mg base CA fa fd (n + 1)) (G1 : AllOk P w K mg base CA fa fd n) : FnOk P w K mg base CX0 (n + 2) (fa .arithmetic) (fd .arithmetic) ["sign", "left", "right"] (spF K CA 3 (runBody (List.length (["sign", "left", "right"] : List Str)) (b_arithmetic (sem (n + 1)) (sem n)))) := by
  refine def_ok (st := s_arithmetic) (Ns := ["sign", "left", "right"]) (ps := ["sign", "left", "right"]) (np := 3) (k := n + 1) (m := b_arithmetic (sem (n + 1)) (sem n)) T.f_arithmetic sc_arithmetic rfl fun X hP hw hK hmg hbase hN hsc hc hfn hr hpo => ?_
  subst hP hw hK hmg hbase
  have hnd : X.N.Nodup := by rw [hN]; exact sc_arithmetic.nd
  have n0 : X.N[0]? = some ("sign" : Str) := by rw [hN]; rfl
  have n1 : X.N[1]? = some ("left" : Str) := by rw [hN]; rfl
  have n2 : X.N[2]? = some ("right" : Str) := by rw [hN]; rfl
  exact (rss_cons (rs_if (rt_cmp (op_eqAll hr.units) sim_eq (v0_arithmetic n0 hsc) re_str (nomark _)) (rss_one (rs_ret (re_op op_addAll sim_add (v1_arithmetic n1 hsc) (v2_arithmetic n2 hsc)))) rss_nil)
  (rss_cons (rs_if (rt_cmp (op_eqAll hr.units) sim_eq (v0_arithmetic n0 hsc) re_str (nomark _)) (rss_one (rs_ret (re_op op_sub sim_sub (v1_arithmetic n1 hsc) (v2_arithmetic n2 hsc)))) rss_nil)
  (rss_cons (rs_if (rt_cmp (op_eqAll hr.units) sim_eq (v0_arithmetic n0 hsc) re_str (nomark _)) (rss_one (rs_ret (re_op op_mul sim_mul (v1_arithmetic n1 hsc) (v2_arithmetic n2 hsc)))) rss_nil)
  (rss_cons (rs_if (rt_cmp (op_eqAll hr.units) sim_eq (v0_arithmetic n0 hsc) re_str (nomark _)) (rss_one (rs_ret (re_op op_fdivG sim_div (v1_arithmetic n1 hsc) (v2_arithmetic n2 hsc)))) rss_nil)
  (rss_one (rs_ret (re_op op_modN sim_mod (re_callTy call_int1 sim_int (gl_int_arithmetic hsc) T.n_int (by decide +kernel) (ra_cons (v1_arithmetic n1 hsc) ra_nil)) (v2_arithmetic n2 hsc))))))))
theorem ok_arithmetic (T : Txt K mg CA fa pa fd) (n : Nat) (G : AllOk P w K mg base CA fa fd (n + 1)) (G1 : AllOk P w K mg base CA fa fd n) : FnOk P w K mg base CX0 (n + 2) (fa .arithmetic) (fd .arithmetic) (psOf .arithmetic) (spF K CA (npOf .arithmetic) (sem (n + 2) .arithmetic)) := by
  rw [sem_arithmetic]
  exact okb_arithmetic T n G G1
theorem v0_Machine_has_room {X : Cx} {CA : Nat → Addr} {pos : Pos} (hn : X.N[0]? = some ("self" : Str)) (hsc : X.env.scope = defScope s_Machine_has_room) : PE X (.Name "self" pos) (liE X.K CA (mVar 0)) := re_var hn (visS hsc (by decide +kernel))
theorem v1_Machine_has_room {X : Cx} {CA : Nat → Addr} {pos : Pos} (hn : X.N[1]? = some ("size" : Str)) (hsc : X.env.scope = defScope s_Machine_has_room) : PE X (.Name "size" pos) (liE X.K CA (mVar 1)) := re_var hn (visS hsc (by decide +kernel))
theorem okb_Machine_has_room (T : Txt K mg CA fa pa fd) (n : Nat) (G : AllOk P w K mg base CA fa fd (n + 1)) (G1 : AllOk P w K mg base CA fa fd n) : FnOk P w K mg base CX0 (n + 2) (fa .Machine_has_room) (fd .Machine_has_room) ["self", "size"] (spF K CA 2 (runBody (List.length (["self", "size"] : List Str)) (b_Machine_has_room (sem (n + 1)) (sem n)))) := by
  refine def_ok (st := s_Machine_has_room) (Ns := ["self", "size"]) (ps := ["self", "size"]) (np := 2) (k := n + 1) (m := b_Machine_has_room (sem (n + 1)) (sem n)) T.f_Machine_has_room sc_Machine_has_room rfl fun X hP hw hK hmg hbase hN hsc hc hfn hr hpo => ?_
  subst hP hw hK hmg hbase
  have hnd : X.N.Nodup := by rw [hN]; exact sc_Machine_has_room.nd
  have n0 : X.N[0]? = some ("self" : Str) := by rw [hN]; rfl
  have n1 : X.N[1]? = some ("size" : Str) := by rw [hN]; rfl
  exact (rss_cons (rs_if (rt_w (rw_and (rt_cmp op_gt (sim_cmp _) (v1_Machine_has_room n1 hsc) re_int (nomark _)) (rw_and1 (rt_not (rt_truth (re_meth T.c_Heap T.m_Heap_fits (G .Heap_fits) hr T.b_Heap_fits rfl (mCons_len mNil_len) (re_fld T.c_Machine T.a_Machine_heap (v0_Machine_has_room n0 hsc)) (ra_cons (v1_Machine_has_room n1 hsc) ra_nil))))))) (rss_cons (rs_expr (re_meth0 T.c_Machine T.m_Machine_collect (G .Machine_collect) hr T.b_Machine_collect rfl (v0_Machine_has_room n0 hsc)))
  (rss_one (rs_if (rt_not (rt_truth (re_meth T.c_Heap T.m_Heap_fits (G .Heap_fits) hr T.b_Heap_fits rfl (mCons_len mNil_len) (re_fld T.c_Machine T.a_Machine_heap (v0_Machine_has_room n0 hsc)) (ra_cons (v1_Machine_has_room n1 hsc) ra_nil)))) (rss_cons (rs_fld T.c_Machine T.a_Machine_now (v0_Machine_has_room n0 hsc) (re_tup (ra_cons re_str ra_nil)))
  (rss_one (rs_ret re_bl))) rss_nil))) rss_nil)
  (rss_one (rs_ret re_bl)))
theorem ok_Machine_has_room (T : Txt K mg CA fa pa fd) (n : Nat) (G : AllOk P w K mg base CA fa fd (n + 1)) (G1 : AllOk P w K mg base CA fa fd n) : FnOk P w K mg base CX0 (n + 2) (fa .Machine_has_room) (fd .Machine_has_room) (psOf .Machine_has_room) (spF K CA (npOf .Machine_has_room) (sem (n + 2) .Machine_has_room)) := by
  rw [sem_Machine_has_room]
  exact okb_Machine_has_room T n G G1
theorem v0_Machine_part_of {X : Cx} {CA : Nat → Addr} {pos : Pos} (hn : X.N[0]? = some ("self" : Str)) (hsc : X.env.scope = defScope s_Machine_part_of) : PE X (.Name "self" pos) (liE X.K CA (mVar 0)) := re_var hn (visS hsc (by decide +kernel))
theorem v1_Machine_part_of {X : Cx} {CA : Nat → Addr} {pos : Pos} (hn : X.N[1]? = some ("word" : Str)) (hsc : X.env.scope = defScope s_Machine_part_of) : PE X (.Name "word" pos) (liE X.K CA (mVar 1)) := re_var hn (visS hsc (by decide +kernel))
theorem v2_Machine_part_of {X : Cx} {CA : Nat → Addr} {pos : Pos} (hn : X.N[2]? = some ("cell" : Str)) (hsc : X.env.scope = defScope s_Machine_part_of) : PE X (.Name "cell" pos) (liE X.K CA (mVar 2)) := re_var hn (visS hsc (by decide +kernel))
theorem lc_2_Machine_part_of {X : Cx} (hsc : X.env.scope = defScope s_Machine_part_of) : L2.Loc X.env.scope "cell" := locS hsc (by decide +kernel)
theorem okb_Machine_part_of (T : Txt K mg CA fa pa fd) (n : Nat) (G : AllOk P w K mg base CA fa fd (n + 1)) (G1 : AllOk P w K mg base CA fa fd n) : FnOk P w K mg base CX0 (n + 2) (fa .Machine_part_of) (fd .Machine_part_of) ["self", "word"] (spF K CA 2 (runBody (List.length (["self", "word", "cell"] : List Str)) (b_Machine_part_of (sem (n + 1)) (sem n)))) := by
  refine def_ok (st := s_Machine_part_of) (Ns := ["self", "word", "cell"]) (ps := ["self", "word"]) (np := 2) (k := n + 1) (m := b_Machine_part_of (sem (n + 1)) (sem n)) T.f_Machine_part_of sc_Machine_part_of rfl fun X hP hw hK hmg hbase hN hsc hc hfn hr hpo => ?_
  subst hP hw hK hmg hbase
  have hnd : X.N.Nodup := by rw [hN]; exact sc_Machine_part_of.nd
  have n0 : X.N[0]? = some ("self" : Str) := by rw [hN]; rfl
  have n1 : X.N[1]? = some ("word" : Str) := by rw [hN]; rfl
  have n2 : X.N[2]? = some ("cell" : Str) := by rw [hN]; rfl
  exact (rss_cons (rs_if (rt_cmp (op_eqAll hr.units) sim_eq (re_op op_modN sim_mod (v1_Machine_part_of n1 hsc) re_int) re_int (nomark _)) (rss_one (rs_ret re_non)) rss_nil)
  (rss_cons (rs_set hnd n2 (lc_2_Machine_part_of hsc) (re_meth T.c_Heap T.m_Heap_cell (G .Heap_cell) hr T.b_Heap_cell rfl (mCons_len mNil_len) (re_fld T.c_Machine T.a_Machine_heap (v0_Machine_part_of n0 hsc)) (ra_cons (re_op op_fdivG sim_div (v1_Machine_part_of n1 hsc) re_int) ra_nil)) (hf := .inl (hfn _)))
  (rss_cons (rs_if (rt_cmp (op_eqAll hr.units) sim_eq (re_ix (ix_all (hu_of hr)) sim_ix (v2_Machine_part_of n2 hsc) re_int (fun _ _ => rfl)) re_str (nomark _)) (rss_one (rs_ret (v2_Machine_part_of n2 hsc))) rss_nil)
  (rss_one (rs_ret re_non)))))
theorem ok_Machine_part_of (T : Txt K mg CA fa pa fd) (n : Nat) (G : AllOk P w K mg base CA fa fd (n + 1)) (G1 : AllOk P w K mg base CA fa fd n) : FnOk P w K mg base CX0 (n + 2) (fa .Machine_part_of) (fd .Machine_part_of) (psOf .Machine_part_of) (spF K CA (npOf .Machine_part_of) (sem (n + 2) .Machine_part_of)) := by
  rw [sem_Machine_part_of]
  exact okb_Machine_part_of T n G G1
theorem v0_Machine_meet_second {X : Cx} {CA : Nat → Addr} {pos : Pos} (hn : X.N[0]? = some ("self" : Str)) (hsc : X.env.scope = defScope s_Machine_meet_second) : PE X (.Name "self" pos) (liE X.K CA (mVar 0)) := re_var hn (visS hsc (by decide +kernel))
theorem v1_Machine_meet_second {X : Cx} {CA : Nat → Addr} {pos : Pos} (hn : X.N[1]? = some ("sign" : Str)) (hsc : X.env.scope = defScope s_Machine_meet_second) : PE X (.Name "sign" pos) (liE X.K CA (mVar 1)) := re_var hn (visS hsc (by decide +kernel))
theorem v2_Machine_meet_second {X : Cx} {CA : Nat → Addr} {pos : Pos} (hn : X.N[2]? = some ("left" : Str)) (hsc : X.env.scope = defScope s_Machine_meet_second) : PE X (.Name "left" pos) (liE X.K CA (mVar 2)) := re_var hn (visS hsc (by decide +kernel))
theorem v3_Machine_meet_second {X : Cx} {CA : Nat → Addr} {pos : Pos} (hn : X.N[3]? = some ("right" : Str)) (hsc : X.env.scope = defScope s_Machine_meet_second) : PE X (.Name "right" pos) (liE X.K CA (mVar 3)) := re_var hn (visS hsc (by decide +kernel))
theorem v4_Machine_meet_second {X : Cx} {CA : Nat → Addr} {pos : Pos} (hn : X.N[4]? = some ("result" : Str)) (hsc : X.env.scope = defScope s_Machine_meet_second) : PE X (.Name "result" pos) (liE X.K CA (mVar 4)) := re_var hn (visS hsc (by decide +kernel))
theorem gl_LARGEST_Machine_meet_second {X : Cx} (hsc : X.env.scope = defScope s_Machine_meet_second) : Gl X "LARGEST" := glS hsc (by decide +kernel)
theorem gl_abs_Machine_meet_second {X : Cx} (hsc : X.env.scope = defScope s_Machine_meet_second) : Gl X "abs" := glS hsc (by decide +kernel)
theorem gl_arithmetic_Machine_meet_second {X : Cx} (hsc : X.env.scope = defScope s_Machine_meet_second) : Gl X "arithmetic" := glS hsc (by decide +kernel)
theorem gl_compared_Machine_meet_second {X : Cx} (hsc : X.env.scope = defScope s_Machine_meet_second) : Gl X "compared" := glS hsc (by decide +kernel)
theorem lc_4_Machine_meet_second {X : Cx} (hsc : X.env.scope = defScope s_Machine_meet_second) : L2.Loc X.env.scope "result" := locS hsc (by decide +kernel)
theorem okb_Machine_meet_second (T : Txt K mg CA fa pa fd) (n : Nat) (G : AllOk P w K mg base CA fa fd (n + 1)) (G1 : AllOk P w K mg base CA fa fd n) : FnOk P w K mg base CX0 (n + 2) (fa .Machine_meet_second) (fd .Machine_meet_second) ["self", "sign", "left", "right"] (spF K CA 4 (runBody (List.length (["self", "sign", "left", "right", "result"] : List Str)) (b_Machine_meet_second (sem (n + 1)) (sem n)))) := by
  refine def_ok (st := s_Machine_meet_second) (Ns := ["self", "sign", "left", "right", "result"]) (ps := ["self", "sign", "left", "right"]) (np := 4) (k := n + 1) (m := b_Machine_meet_second (sem (n + 1)) (sem n)) T.f_Machine_meet_second sc_Machine_meet_second rfl fun X hP hw hK hmg hbase hN hsc hc hfn hr hpo => ?_
  subst hP hw hK hmg hbase
  have hnd : X.N.Nodup := by rw [hN]; exact sc_Machine_meet_second.nd
  have n0 : X.N[0]? = some ("self" : Str) := by rw [hN]; rfl
  have n1 : X.N[1]? = some ("sign" : Str) := by rw [hN]; rfl
  have n2 : X.N[2]? = some ("left" : Str) := by rw [hN]; rfl
  have n3 : X.N[3]? = some ("right" : Str) := by rw [hN]; rfl
  have n4 : X.N[4]? = some ("result" : Str) := by rw [hN]; rfl
  exact (rss_cons (rs_if (rt_cmp (op_inAll (hu_of hr)) (sim_in _) (v1_Machine_meet_second n1 hsc) (re_tup (ra_cons re_str (ra_cons re_str (ra_cons re_str ra_nil)))) (by rfl)) (rss_cons (rs_fld T.c_Machine T.a_Machine_now (v0_Machine_meet_second n0 hsc) (re_tup (ra_cons re_str (ra_cons (re_meth T.c_Machine T.m_Machine_make (G .Machine_make) hr T.b_Machine_make rfl (mCons_len mNil_len) (v0_Machine_meet_second n0 hsc) (ra_cons (re_tup (ra_cons re_str (ra_cons (re_call (G .compared) hr (gl_compared_Machine_meet_second hsc) T.g_compared T.f_compared.kp T.b_compared rfl (mCons_len (mCons_len (mCons_len mNil_len))) (ra_cons (v1_Machine_meet_second n1 hsc) (ra_cons (v2_Machine_meet_second n2 hsc) (ra_cons (v3_Machine_meet_second n3 hsc) ra_nil)))) (ra_cons (re_tup ra_nil) ra_nil)))) ra_nil)) ra_nil))))
  (rss_one rs_retN)) rss_nil)
  (rss_cons (rs_if (rt_w (rw_and (rt_cmp (op_eqAll hr.units) sim_eq (v3_Machine_meet_second n3 hsc) re_int (nomark _)) (rw_and1 (rt_cmp (op_inAll (hu_of hr)) (sim_in _) (v1_Machine_meet_second n1 hsc) (re_tup (ra_cons re_str (ra_cons re_str ra_nil))) (by rfl))))) (rss_cons (rs_expr (re_meth T.c_Machine T.m_Machine_fault (G .Machine_fault) hr T.b_Machine_fault rfl (mCons_len mNil_len) (v0_Machine_meet_second n0 hsc) (ra_cons re_str ra_nil)))
  (rss_one rs_retN)) rss_nil)
  (rss_cons (rs_set hnd n4 (lc_4_Machine_meet_second hsc) (re_call (G .arithmetic) hr (gl_arithmetic_Machine_meet_second hsc) T.g_arithmetic T.f_arithmetic.kp T.b_arithmetic rfl (mCons_len (mCons_len (mCons_len mNil_len))) (ra_cons (v1_Machine_meet_second n1 hsc) (ra_cons (v2_Machine_meet_second n2 hsc) (ra_cons (v3_Machine_meet_second n3 hsc) ra_nil)))) (hf := .inl (hfn _)))
  (rss_one (rs_if (rt_cmp op_gt (sim_cmp _) (re_callB call_abs sim_abs (gl_abs_Machine_meet_second hsc) T.n_abs (by decide +kernel) (ra_cons (v4_Machine_meet_second n4 hsc) ra_nil)) (T.r_LARGEST _ rfl rfl (gl_LARGEST_Machine_meet_second hsc)) (nomark _)) (rss_one (rs_expr (re_meth T.c_Machine T.m_Machine_fault (G .Machine_fault) hr T.b_Machine_fault rfl (mCons_len mNil_len) (v0_Machine_meet_second n0 hsc) (ra_cons re_str ra_nil)))) (rss_one (rs_fld T.c_Machine T.a_Machine_now (v0_Machine_meet_second n0 hsc) (re_tup (ra_cons re_str (ra_cons (re_op op_addAll sim_add (re_op op_mul sim_mul re_int (v4_Machine_meet_second n4 hsc)) re_int) ra_nil))))))))))
theorem ok_Machine_meet_second (T : Txt K mg CA fa pa fd) (n : Nat) (G : AllOk P w K mg base CA fa fd (n + 1)) (G1 : AllOk P w K mg base CA fa fd n) : FnOk P w K mg base CX0 (n + 2) (fa .Machine_meet_second) (fd .Machine_meet_second) (psOf .Machine_meet_second) (spF K CA (npOf .Machine_meet_second) (sem (n + 2) .Machine_meet_second)) := by
  rw [sem_Machine_meet_second]
  exact okb_Machine_meet_second T n G G1
theorem v0_l_number {X : Cx} {CA : Nat → Addr} {pos : Pos} (hn : X.N[0]? = some ("_law_w" : Str)) (hsc : X.env.scope = defScope s_l_number) : PE X (.Name "_law_w" pos) (liE X.K CA (mVar 0)) := re_var hn (visS hsc (by decide +kernel))
theorem v1_l_number {X : Cx} {CA : Nat → Addr} {pos : Pos} (hn : X.N[1]? = some ("_law_turn" : Str)) (hsc : X.env.scope = defScope s_l_number) : PE X (.Name "_law_turn" pos) (liE X.K CA (mVar 1)) := re_var hn (visS hsc (by decide +kernel))
theorem gl__law_next_l_number {X : Cx} (hsc : X.env.scope = defScope s_l_number) : Gl X "_law_next" := glS hsc (by decide +kernel)
theorem lc_1_l_number {X : Cx} (hsc : X.env.scope = defScope s_l_number) : L2.Loc X.env.scope "_law_turn" := locS hsc (by decide +kernel)
theorem okb_l_number (T : Txt K mg CA fa pa fd) (n : Nat) (G : AllOk P w K mg base CA fa fd (n + 1)) (G1 : AllOk P w K mg base CA fa fd n) : FnOk P w K mg base CX0 (n + 2) (fa .l_number) (fd .l_number) ["_law_w"] (spF K CA 1 (runBody (List.length (["_law_w", "_law_turn"] : List Str)) (b_l_number (sem (n + 1)) (sem n)))) := by
  refine def_ok (st := s_l_number) (Ns := ["_law_w", "_law_turn"]) (ps := ["_law_w"]) (np := 1) (k := n + 1) (m := b_l_number (sem (n + 1)) (sem n)) T.f_l_number sc_l_number rfl fun X hP hw hK hmg hbase hN hsc hc hfn hr hpo => ?_
  subst hP hw hK hmg hbase
  have hnd : X.N.Nodup := by rw [hN]; exact sc_l_number.nd
  have n0 : X.N[0]? = some ("_law_w" : Str) := by rw [hN]; rfl
  have n1 : X.N[1]? = some ("_law_turn" : Str) := by rw [hN]; rfl
  exact (rss_cons (rs_set hnd n1 (lc_1_l_number hsc) (re_call (G .l_next) hr (gl__law_next_l_number hsc) T.g_l_next T.f_l_next.kp T.b_l_next rfl (mCons_len (mCons_len mNil_len)) (ra_cons (v0_l_number n0 hsc) (ra_cons re_int ra_nil))) (hf := .inl (hfn _)))
  (rss_cons (rs_if (rt_cmp (op_eqAll hr.units) sim_eq (v1_l_number n1 hsc) re_int (nomark _)) (rss_one (rs_ret (re_op op_sub sim_sub (re_call (G .l_next) hr (gl__law_next_l_number hsc) T.g_l_next T.f_l_next.kp T.b_l_next rfl (mCons_len (mCons_len mNil_len)) (ra_cons (v0_l_number n0 hsc) (ra_cons re_int ra_nil))) re_int))) rss_nil)
  (rss_cons (rs_if (rt_cmp (op_eqAll hr.units) sim_eq (v1_l_number n1 hsc) re_int (nomark _)) (rss_one (rs_ret (re_op op_sub sim_sub (re_op op_pow sim_pow re_int re_int) (re_call (G .l_next) hr (gl__law_next_l_number hsc) T.g_l_next T.f_l_next.kp T.b_l_next rfl (mCons_len (mCons_len mNil_len)) (ra_cons (v0_l_number n0 hsc) (ra_cons re_int ra_nil)))))) rss_nil)
  (rss_cons (rs_if (rt_cmp (op_eqAll hr.units) sim_eq (v1_l_number n1 hsc) re_int (nomark _)) (rss_one (rs_ret (re_op op_sub sim_sub (re_call (G .l_next) hr (gl__law_next_l_number hsc) T.g_l_next T.f_l_next.kp T.b_l_next rfl (mCons_len (mCons_len mNil_len)) (ra_cons (v0_l_number n0 hsc) (ra_cons re_int ra_nil))) (re_op op_pow sim_pow re_int re_int)))) rss_nil)
  (rss_cons (rs_if (rt_cmp (op_eqAll hr.units) sim_eq (v1_l_number n1 hsc) re_int (nomark _)) (rss_one (rs_ret (re_op op_sub sim_sub (re_op op_mul sim_mul (re_op op_addAll sim_add (re_op op_mul sim_mul (re_call (G .l_next) hr (gl__law_next_l_number hsc) T.g_l_next T.f_l_next.kp T.b_l_next rfl (mCons_len (mCons_len mNil_len)) (ra_cons (v0_l_number n0 hsc) (ra_cons re_int ra_nil))) re_int) (re_call (G .l_next) hr (gl__law_next_l_number hsc) T.g_l_next T.f_l_next.kp T.b_l_next rfl (mCons_len (mCons_len mNil_len)) (ra_cons (v0_l_number n0 hsc) (ra_cons re_int ra_nil)))) re_int) re_int))) rss_nil)
  (rss_one (rs_ret (re_op op_sub sim_sub (re_call (G .l_next) hr (gl__law_next_l_number hsc) T.g_l_next T.f_l_next.kp T.b_l_next rfl (mCons_len (mCons_len mNil_len)) (ra_cons (v0_l_number n0 hsc) (ra_cons re_int ra_nil))) re_int))))))))
theorem ok_l_number (T : Txt K mg CA fa pa fd) (n : Nat) (G : AllOk P w K mg base CA fa fd (n + 1)) (G1 : AllOk P w K mg base CA fa fd n) : FnOk P w K mg base CX0 (n + 2) (fa .l_number) (fd .l_number) (psOf .l_number) (spF K CA (npOf .l_number) (sem (n + 2) .l_number)) := by
  rw [sem_l_number]
  exact okb_l_number T n G G1
end
end Nk66

namespace Nk66
open PySem L2 Nd
section
variable {P : Program} {w : World} {K : PySem.W.Frag} {mg : Str → Option Value} {base : Heap} {CA : Nat → Addr} {fa pa : Fi → Addr} {fd : Fi → FuncData}
theorem v0_Heap_fits {X : Cx} {CA : Nat → Addr} {pos : Pos} (hn : X.N[0]? = some ("self" : Str)) (hsc : X.env.scope = defScope s_Heap_fits) : PE X (.Name "self" pos) (liE X.K CA (mVar 0)) := re_var hn (visS hsc (by decide +kernel))
theorem v1_Heap_fits {X : Cx} {CA : Nat → Addr} {pos : Pos} (hn : X.N[1]? = some ("size" : Str)) (hsc : X.env.scope = defScope s_Heap_fits) : PE X (.Name "size" pos) (liE X.K CA (mVar 1)) := re_var hn (visS hsc (by decide +kernel))
theorem okb_Heap_fits (T : Txt K mg CA fa pa fd) (n : Nat) (G : AllOk P w K mg base CA fa fd (n + 1)) (G1 : AllOk P w K mg base CA fa fd n) : FnOk P w K mg base CX0 (n + 2) (fa .Heap_fits) (fd .Heap_fits) ["self", "size"] (spF K CA 2 (runBody (List.length (["self", "size"] : List Str)) (b_Heap_fits (sem (n + 1)) (sem n)))) := by
  refine def_ok (st := s_Heap_fits) (Ns := ["self", "size"]) (ps := ["self", "size"]) (np := 2) (k := n + 1) (m := b_Heap_fits (sem (n + 1)) (sem n)) T.f_Heap_fits sc_Heap_fits rfl fun X hP hw hK hmg hbase hN hsc hc hfn hr hpo => ?_
  subst hP hw hK hmg hbase
  have hnd : X.N.Nodup := by rw [hN]; exact sc_Heap_fits.nd
  have n0 : X.N[0]? = some ("self" : Str) := by rw [hN]; rfl
  have n1 : X.N[1]? = some ("size" : Str) := by rw [hN]; rfl
  exact (rss_one (rs_ret (re_cmp op_le (sim_cmp _) (re_op op_addAll sim_add (re_fld T.c_Heap T.a_Heap_used (v0_Heap_fits n0 hsc)) (v1_Heap_fits n1 hsc)) (re_fld T.c_Heap T.a_Heap_room (v0_Heap_fits n0 hsc)) (nomark _))))
theorem ok_Heap_fits (T : Txt K mg CA fa pa fd) (n : Nat) (G : AllOk P w K mg base CA fa fd (n + 1)) (G1 : AllOk P w K mg base CA fa fd n) : FnOk P w K mg base CX0 (n + 2) (fa .Heap_fits) (fd .Heap_fits) (psOf .Heap_fits) (spF K CA (npOf .Heap_fits) (sem (n + 2) .Heap_fits)) := by
  rw [sem_Heap_fits]
  exact okb_Heap_fits T n G G1
theorem v0_compared {X : Cx} {CA : Nat → Addr} {pos : Pos} (hn : X.N[0]? = some ("sign" : Str)) (hsc : X.env.scope = defScope s_compared) : PE X (.Name "sign" pos) (liE X.K CA (mVar 0)) := re_var hn (visS hsc (by decide +kernel))
theorem v1_compared {X : Cx} {CA : Nat → Addr} {pos : Pos} (hn : X.N[1]? = some ("left" : Str)) (hsc : X.env.scope = defScope s_compared) : PE X (.Name "left" pos) (liE X.K CA (mVar 1)) := re_var hn (visS hsc (by decide +kernel))
theorem v2_compared {X : Cx} {CA : Nat → Addr} {pos : Pos} (hn : X.N[2]? = some ("right" : Str)) (hsc : X.env.scope = defScope s_compared) : PE X (.Name "right" pos) (liE X.K CA (mVar 2)) := re_var hn (visS hsc (by decide +kernel))
theorem gl_int_compared {X : Cx} (hsc : X.env.scope = defScope s_compared) : Gl X "int" := glS hsc (by decide +kernel)
theorem okb_compared (T : Txt K mg CA fa pa fd) (n : Nat) (G : AllOk P w K mg base CA fa fd (n + 1)) (G1 : AllOk P w K mg base CA fa fd n) : FnOk P w K mg base CX0 (n + 2) (fa .compared) (fd .compared) ["sign", "left", "right"] (spF K CA 3 (runBody (List.length (["sign", "left", "right"] : List Str)) (b_compared (sem (n + 1)) (sem n)))) := by
  refine def_ok (st := s_compared) (Ns := ["sign", "left", "right"]) (ps := ["sign", "left", "right"]) (np := 3) (k := n + 1) (m := b_compared (sem (n + 1)) (sem n)) T.f_compared sc_compared rfl fun X hP hw hK hmg hbase hN hsc hc hfn hr hpo => ?_
  subst hP hw hK hmg hbase
  have hnd : X.N.Nodup := by rw [hN]; exact sc_compared.nd
  have n0 : X.N[0]? = some ("sign" : Str) := by rw [hN]; rfl
  have n1 : X.N[1]? = some ("left" : Str) := by rw [hN]; rfl
  have n2 : X.N[2]? = some ("right" : Str) := by rw [hN]; rfl
  exact (rss_cons (rs_if (rt_cmp (op_eqAll hr.units) sim_eq (v0_compared n0 hsc) re_str (nomark _)) (rss_one (rs_ret (re_callTy call_int1 sim_int (gl_int_compared hsc) T.n_int (by decide +kernel) (ra_cons (re_cmp (op_eqAll hr.units) sim_eq (v1_compared n1 hsc) (v2_compared n2 hsc) (nomark _)) ra_nil)))) rss_nil)
  (rss_cons (rs_if (rt_cmp (op_eqAll hr.units) sim_eq (v0_compared n0 hsc) re_str (nomark _)) (rss_one (rs_ret (re_callTy call_int1 sim_int (gl_int_compared hsc) T.n_int (by decide +kernel) (ra_cons (re_cmp op_lt (sim_cmp _) (v1_compared n1 hsc) (v2_compared n2 hsc) (nomark _)) ra_nil)))) rss_nil)
  (rss_one (rs_ret (re_callTy call_int1 sim_int (gl_int_compared hsc) T.n_int (by decide +kernel) (ra_cons (re_cmp op_le (sim_cmp _) (v1_compared n1 hsc) (v2_compared n2 hsc) (nomark _)) ra_nil))))))
theorem ok_compared (T : Txt K mg CA fa pa fd) (n : Nat) (G : AllOk P w K mg base CA fa fd (n + 1)) (G1 : AllOk P w K mg base CA fa fd n) : FnOk P w K mg base CX0 (n + 2) (fa .compared) (fd .compared) (psOf .compared) (spF K CA (npOf .compared) (sem (n + 2) .compared)) := by
  rw [sem_compared]
  exact okb_compared T n G G1
theorem v0_Machine_step {X : Cx} {CA : Nat → Addr} {pos : Pos} (hn : X.N[0]? = some ("self" : Str)) (hsc : X.env.scope = defScope s_Machine_step) : PE X (.Name "self" pos) (liE X.K CA (mVar 0)) := re_var hn (visS hsc (by decide +kernel))
theorem gl_body_size_Machine_step {X : Cx} (hsc : X.env.scope = defScope s_Machine_step) : Gl X "body_size" := glS hsc (by decide +kernel)
theorem okb_Machine_step (T : Txt K mg CA fa pa fd) (n : Nat) (G : AllOk P w K mg base CA fa fd (n + 1)) (G1 : AllOk P w K mg base CA fa fd n) : FnOk P w K mg base CX0 (n + 2) (fa .Machine_step) (fd .Machine_step) ["self"] (spF K CA 1 (runBody (List.length (["self"] : List Str)) (b_Machine_step (sem (n + 1)) (sem n)))) := by
  refine def_ok (st := s_Machine_step) (Ns := ["self"]) (ps := ["self"]) (np := 1) (k := n + 1) (m := b_Machine_step (sem (n + 1)) (sem n)) T.f_Machine_step sc_Machine_step rfl fun X hP hw hK hmg hbase hN hsc hc hfn hr hpo => ?_
  subst hP hw hK hmg hbase
  have hnd : X.N.Nodup := by rw [hN]; exact sc_Machine_step.nd
  have n0 : X.N[0]? = some ("self" : Str) := by rw [hN]; rfl
  exact (rss_one (rs_if (rt_cmp (op_eqAll hr.units) sim_eq (re_ix (ix_all (hu_of hr)) sim_ix (re_fld T.c_Machine T.a_Machine_now (v0_Machine_step n0 hsc)) re_int (fun _ _ => rfl)) re_str (nomark _)) (rss_one (rs_expr (re_meth T.c_Machine T.m_Machine_enter (G .Machine_enter) hr T.b_Machine_enter rfl (mCons_len mNil_len) (v0_Machine_step n0 hsc) (ra_cons (re_ix (ix_all (hu_of hr)) sim_ix (re_fld T.c_Machine T.a_Machine_now (v0_Machine_step n0 hsc)) re_int (fun _ _ => rfl)) ra_nil)))) (rss_one (rs_if (rt_cmp (op_eqAll hr.units) sim_eq (re_ix (ix_all (hu_of hr)) sim_ix (re_fld T.c_Machine T.a_Machine_now (v0_Machine_step n0 hsc)) re_int (fun _ _ => rfl)) re_str (nomark _)) (rss_one (rs_if (rt_truth (re_meth T.c_Machine T.m_Machine_has_room (G .Machine_has_room) hr T.b_Machine_has_room rfl (mCons_len mNil_len) (v0_Machine_step n0 hsc) (ra_cons (re_call (G .body_size) hr (gl_body_size_Machine_step hsc) T.g_body_size T.f_body_size.kp T.b_body_size rfl (mCons_len mNil_len) (ra_cons (re_ix (ix_all (hu_of hr)) sim_ix (re_fld T.c_Machine T.a_Machine_now (v0_Machine_step n0 hsc)) re_int (fun _ _ => rfl)) ra_nil)) ra_nil))) (rss_one (rs_expr (re_meth T.c_Machine T.m_Machine_evaluate (G .Machine_evaluate) hr T.b_Machine_evaluate rfl (mCons_len (mCons_len mNil_len)) (v0_Machine_step n0 hsc) (ra_cons (re_ix (ix_all (hu_of hr)) sim_ix (re_fld T.c_Machine T.a_Machine_now (v0_Machine_step n0 hsc)) re_int (fun _ _ => rfl)) (ra_cons (re_ix (ix_all (hu_of hr)) sim_ix (re_fld T.c_Machine T.a_Machine_now (v0_Machine_step n0 hsc)) re_int (fun _ _ => rfl)) ra_nil))))) rss_nil)) (rss_one (rs_if (rt_cmp (op_eqAll hr.units) sim_eq (re_ix (ix_all (hu_of hr)) sim_ix (re_fld T.c_Machine T.a_Machine_now (v0_Machine_step n0 hsc)) re_int (fun _ _ => rfl)) re_str (nomark _)) (rss_one (rs_if (rt_truth (re_meth T.c_Machine T.m_Machine_has_room (G .Machine_has_room) hr T.b_Machine_has_room rfl (mCons_len mNil_len) (v0_Machine_step n0 hsc) (ra_cons (re_meth0 T.c_Machine T.m_Machine_meeting_size (G .Machine_meeting_size) hr T.b_Machine_meeting_size rfl (v0_Machine_step n0 hsc)) ra_nil))) (rss_one (rs_expr (re_meth T.c_Machine T.m_Machine_meet (G .Machine_meet) hr T.b_Machine_meet rfl (mCons_len (mCons_len mNil_len)) (v0_Machine_step n0 hsc) (ra_cons (re_ix (ix_all (hu_of hr)) sim_ix (re_fld T.c_Machine T.a_Machine_now (v0_Machine_step n0 hsc)) re_int (fun _ _ => rfl)) (ra_cons (re_bm0 PySem.F.slot_list_pop PySem.F.type_list_pop mt_pop sim_pop (re_fld T.c_Machine T.a_Machine_stack (v0_Machine_step n0 hsc))) ra_nil))))) rss_nil)) rss_nil))))))
theorem ok_Machine_step (T : Txt K mg CA fa pa fd) (n : Nat) (G : AllOk P w K mg base CA fa fd (n + 1)) (G1 : AllOk P w K mg base CA fa fd n) : FnOk P w K mg base CX0 (n + 2) (fa .Machine_step) (fd .Machine_step) (psOf .Machine_step) (spF K CA (npOf .Machine_step) (sem (n + 2) .Machine_step)) := by
  rw [sem_Machine_step]
  exact okb_Machine_step T n G G1
theorem v0_Machine_meeting_size {X : Cx} {CA : Nat → Addr} {pos : Pos} (hn : X.N[0]? = some ("self" : Str)) (hsc : X.env.scope = defScope s_Machine_meeting_size) : PE X (.Name "self" pos) (liE X.K CA (mVar 0)) := re_var hn (visS hsc (by decide +kernel))
theorem v1_Machine_meeting_size {X : Cx} {CA : Nat → Addr} {pos : Pos} (hn : X.N[1]? = some ("frame" : Str)) (hsc : X.env.scope = defScope s_Machine_meeting_size) : PE X (.Name "frame" pos) (liE X.K CA (mVar 1)) := re_var hn (visS hsc (by decide +kernel))
theorem v2_Machine_meeting_size {X : Cx} {CA : Nat → Addr} {pos : Pos} (hn : X.N[2]? = some ("word" : Str)) (hsc : X.env.scope = defScope s_Machine_meeting_size) : PE X (.Name "word" pos) (liE X.K CA (mVar 2)) := re_var hn (visS hsc (by decide +kernel))
theorem v3_Machine_meeting_size {X : Cx} {CA : Nat → Addr} {pos : Pos} (hn : X.N[3]? = some ("part" : Str)) (hsc : X.env.scope = defScope s_Machine_meeting_size) : PE X (.Name "part" pos) (liE X.K CA (mVar 3)) := re_var hn (visS hsc (by decide +kernel))
theorem v4_Machine_meeting_size {X : Cx} {CA : Nat → Addr} {pos : Pos} (hn : X.N[4]? = some ("many" : Str)) (hsc : X.env.scope = defScope s_Machine_meeting_size) : PE X (.Name "many" pos) (liE X.K CA (mVar 4)) := re_var hn (visS hsc (by decide +kernel))
theorem gl_len_Machine_meeting_size {X : Cx} (hsc : X.env.scope = defScope s_Machine_meeting_size) : Gl X "len" := glS hsc (by decide +kernel)
theorem lc_1_Machine_meeting_size {X : Cx} (hsc : X.env.scope = defScope s_Machine_meeting_size) : L2.Loc X.env.scope "frame" := locS hsc (by decide +kernel)
theorem lc_4_Machine_meeting_size {X : Cx} (hsc : X.env.scope = defScope s_Machine_meeting_size) : L2.Loc X.env.scope "many" := locS hsc (by decide +kernel)
theorem lc_3_Machine_meeting_size {X : Cx} (hsc : X.env.scope = defScope s_Machine_meeting_size) : L2.Loc X.env.scope "part" := locS hsc (by decide +kernel)
theorem lc_2_Machine_meeting_size {X : Cx} (hsc : X.env.scope = defScope s_Machine_meeting_size) : L2.Loc X.env.scope "word" := locS hsc (by decide +kernel)
theorem okb_Machine_meeting_size (T : Txt K mg CA fa pa fd) (n : Nat) (G : AllOk P w K mg base CA fa fd (n + 1)) (G1 : AllOk P w K mg base CA fa fd n) : FnOk P w K mg base CX0 (n + 2) (fa .Machine_meeting_size) (fd .Machine_meeting_size) ["self"] (spF K CA 1 (runBody (List.length (["self", "frame", "word", "part", "many"] : List Str)) (b_Machine_meeting_size (sem (n + 1)) (sem n)))) := by
  refine def_ok (st := s_Machine_meeting_size) (Ns := ["self", "frame", "word", "part", "many"]) (ps := ["self"]) (np := 1) (k := n + 1) (m := b_Machine_meeting_size (sem (n + 1)) (sem n)) T.f_Machine_meeting_size sc_Machine_meeting_size rfl fun X hP hw hK hmg hbase hN hsc hc hfn hr hpo => ?_
  subst hP hw hK hmg hbase
  have hnd : X.N.Nodup := by rw [hN]; exact sc_Machine_meeting_size.nd
  have n0 : X.N[0]? = some ("self" : Str) := by rw [hN]; rfl
  have n1 : X.N[1]? = some ("frame" : Str) := by rw [hN]; rfl
  have n2 : X.N[2]? = some ("word" : Str) := by rw [hN]; rfl
  have n3 : X.N[3]? = some ("part" : Str) := by rw [hN]; rfl
  have n4 : X.N[4]? = some ("many" : Str) := by rw [hN]; rfl
  exact (rss_cons (rs_set hnd n1 (lc_1_Machine_meeting_size hsc) (re_ix (ix_all (hu_of hr)) sim_ix (re_fld T.c_Machine T.a_Machine_stack (v0_Machine_meeting_size n0 hsc)) (re_un un_neg sim_neg re_int) (fun _ _ => rfl)) (hf := .inl (hfn _)))
  (rss_cons (rs_set hnd n2 (lc_2_Machine_meeting_size hsc) (re_ix (ix_all (hu_of hr)) sim_ix (re_fld T.c_Machine T.a_Machine_now (v0_Machine_meeting_size n0 hsc)) re_int (fun _ _ => rfl)) (hf := .inl (hfn _)))
  (rss_cons (rs_if (rt_w (rw_and (rt_cmp (op_eqAll hr.units) sim_eq (re_ix (ix_all (hu_of hr)) sim_ix (v1_Machine_meeting_size n1 hsc) re_int (fun _ _ => rfl)) re_str (nomark _)) (rw_and (rt_cmp (op_eqAll hr.units) sim_eq (re_op op_modN sim_mod (v2_Machine_meeting_size n2 hsc) re_int) re_int (nomark _)) (rw_and1 (rt_cmp (op_inAll (hu_of hr)) (sim_in _) (re_ix (ix_all (hu_of hr)) sim_ix (v1_Machine_meeting_size n1 hsc) re_int (fun _ _ => rfl)) (re_tup (ra_cons re_str (ra_cons re_str (ra_cons re_str ra_nil)))) (by rfl)))))) (rss_one (rs_ret re_int)) rss_nil)
  (rss_cons (rs_if (rt_cmp (op_eqAll hr.units) sim_eq (re_ix (ix_all (hu_of hr)) sim_ix (v1_Machine_meeting_size n1 hsc) re_int (fun _ _ => rfl)) re_str (nomark _)) (rss_cons (rs_set hnd n3 (lc_3_Machine_meeting_size hsc) (re_meth T.c_Machine T.m_Machine_part_of (G .Machine_part_of) hr T.b_Machine_part_of rfl (mCons_len mNil_len) (v0_Machine_meeting_size n0 hsc) (ra_cons (v2_Machine_meeting_size n2 hsc) ra_nil)) (hf := .inl (hfn _)))
  (rss_one (rs_if (rt_cmp op_notN sim_notN (v3_Machine_meeting_size n3 hsc) re_non (nomark _)) (rss_cons (rs_set hnd n4 (lc_4_Machine_meeting_size hsc) (re_op op_addAll sim_add (re_callB call_lenAll sim_len (gl_len_Machine_meeting_size hsc) T.n_len (by decide +kernel) (ra_cons (re_ix (ix_all (hu_of hr)) sim_ix (v3_Machine_meeting_size n3 hsc) re_int (fun _ _ => rfl)) ra_nil)) (re_callB call_lenAll sim_len (gl_len_Machine_meeting_size hsc) T.n_len (by decide +kernel) (ra_cons (re_ix (ix_all (hu_of hr)) sim_ix (v1_Machine_meeting_size n1 hsc) re_int (fun _ _ => rfl)) ra_nil))) (hf := .inl (hfn _)))
  (rss_one (rs_if (rt_cmp op_lt (sim_cmp _) (v4_Machine_meeting_size n4 hsc) (re_ix (ix_all (hu_of hr)) sim_ix (re_ix (ix_all (hu_of hr)) sim_ix (re_fld T.c_Machine T.a_Machine_functions (v0_Machine_meeting_size n0 hsc)) (re_ix (ix_all (hu_of hr)) sim_ix (v3_Machine_meeting_size n3 hsc) re_int (fun _ _ => rfl)) (fun _ _ => rfl)) re_int (fun _ _ => rfl)) (nomark _)) (rss_one (rs_ret (re_op op_addAll sim_add re_int (v4_Machine_meeting_size n4 hsc)))) rss_nil))) rss_nil))) rss_nil)
  (rss_one (rs_ret re_int))))))
theorem ok_Machine_meeting_size (T : Txt K mg CA fa pa fd) (n : Nat) (G : AllOk P w K mg base CA fa fd (n + 1)) (G1 : AllOk P w K mg base CA fa fd n) : FnOk P w K mg base CX0 (n + 2) (fa .Machine_meeting_size) (fd .Machine_meeting_size) (psOf .Machine_meeting_size) (spF K CA (npOf .Machine_meeting_size) (sem (n + 2) .Machine_meeting_size)) := by
  rw [sem_Machine_meeting_size]
  exact okb_Machine_meeting_size T n G G1
theorem v0_Machine_meet_default {X : Cx} {CA : Nat → Addr} {pos : Pos} (hn : X.N[0]? = some ("self" : Str)) (hsc : X.env.scope = defScope s_Machine_meet_default) : PE X (.Name "self" pos) (liE X.K CA (mVar 0)) := re_var hn (visS hsc (by decide +kernel))
theorem v1_Machine_meet_default {X : Cx} {CA : Nat → Addr} {pos : Pos} (hn : X.N[1]? = some ("word" : Str)) (hsc : X.env.scope = defScope s_Machine_meet_default) : PE X (.Name "word" pos) (liE X.K CA (mVar 1)) := re_var hn (visS hsc (by decide +kernel))
theorem v2_Machine_meet_default {X : Cx} {CA : Nat → Addr} {pos : Pos} (hn : X.N[2]? = some ("frame" : Str)) (hsc : X.env.scope = defScope s_Machine_meet_default) : PE X (.Name "frame" pos) (liE X.K CA (mVar 2)) := re_var hn (visS hsc (by decide +kernel))
theorem okb_Machine_meet_default (T : Txt K mg CA fa pa fd) (n : Nat) (G : AllOk P w K mg base CA fa fd (n + 1)) (G1 : AllOk P w K mg base CA fa fd n) : FnOk P w K mg base CX0 (n + 2) (fa .Machine_meet_default) (fd .Machine_meet_default) ["self", "word", "frame"] (spF K CA 3 (runBody (List.length (["self", "word", "frame"] : List Str)) (b_Machine_meet_default (sem (n + 1)) (sem n)))) := by
  refine def_ok (st := s_Machine_meet_default) (Ns := ["self", "word", "frame"]) (ps := ["self", "word", "frame"]) (np := 3) (k := n + 1) (m := b_Machine_meet_default (sem (n + 1)) (sem n)) T.f_Machine_meet_default sc_Machine_meet_default rfl fun X hP hw hK hmg hbase hN hsc hc hfn hr hpo => ?_
  subst hP hw hK hmg hbase
  have hnd : X.N.Nodup := by rw [hN]; exact sc_Machine_meet_default.nd
  have n0 : X.N[0]? = some ("self" : Str) := by rw [hN]; rfl
  have n1 : X.N[1]? = some ("word" : Str) := by rw [hN]; rfl
  have n2 : X.N[2]? = some ("frame" : Str) := by rw [hN]; rfl
  exact (rss_one (rs_if (rt_cmp op_isN sim_isN (re_ix (ix_all (hu_of hr)) sim_ix (v2_Machine_meet_default n2 hsc) re_int (fun _ _ => rfl)) re_non (nomark _)) (rss_one (rs_expr (re_meth T.c_Machine T.m_Machine_fault (G .Machine_fault) hr T.b_Machine_fault rfl (mCons_len mNil_len) (v0_Machine_meet_default n0 hsc) (ra_cons re_str ra_nil)))) (rss_one (rs_fld T.c_Machine T.a_Machine_now (v0_Machine_meet_default n0 hsc) (re_tup (ra_cons re_str (ra_cons (re_ix (ix_all (hu_of hr)) sim_ix (v2_Machine_meet_default n2 hsc) re_int (fun _ _ => rfl)) (ra_cons (re_op op_addAll sim_add (re_ix (ix_all (hu_of hr)) sim_ix (v2_Machine_meet_default n2 hsc) re_int (fun _ _ => rfl)) (re_tup (ra_cons (v1_Machine_meet_default n1 hsc) ra_nil))) ra_nil))))))))
theorem ok_Machine_meet_default (T : Txt K mg CA fa pa fd) (n : Nat) (G : AllOk P w K mg base CA fa fd (n + 1)) (G1 : AllOk P w K mg base CA fa fd n) : FnOk P w K mg base CX0 (n + 2) (fa .Machine_meet_default) (fd .Machine_meet_default) (psOf .Machine_meet_default) (spF K CA (npOf .Machine_meet_default) (sem (n + 2) .Machine_meet_default)) := by
  rw [sem_Machine_meet_default]
  exact okb_Machine_meet_default T n G G1
theorem v0_l_term {X : Cx} {CA : Nat → Addr} {pos : Pos} (hn : X.N[0]? = some ("_law_sign" : Str)) (hsc : X.env.scope = defScope s_l_term) : PE X (.Name "_law_sign" pos) (liE X.K CA (mVar 0)) := re_var hn (visS hsc (by decide +kernel))
theorem v1_l_term {X : Cx} {CA : Nat → Addr} {pos : Pos} (hn : X.N[1]? = some ("_law_left" : Str)) (hsc : X.env.scope = defScope s_l_term) : PE X (.Name "_law_left" pos) (liE X.K CA (mVar 1)) := re_var hn (visS hsc (by decide +kernel))
theorem v2_l_term {X : Cx} {CA : Nat → Addr} {pos : Pos} (hn : X.N[2]? = some ("_law_right" : Str)) (hsc : X.env.scope = defScope s_l_term) : PE X (.Name "_law_right" pos) (liE X.K CA (mVar 2)) := re_var hn (visS hsc (by decide +kernel))
theorem v3_l_term {X : Cx} {CA : Nat → Addr} {pos : Pos} (hn : X.N[3]? = some ("_law_term_here" : Str)) (hsc : X.env.scope = defScope s_l_term) : PE X (.Name "_law_term_here" pos) (liE X.K CA (mVar 3)) := re_var hn (visS hsc (by decide +kernel))
theorem v4_l_term {X : Cx} {CA : Nat → Addr} {pos : Pos} (hn : X.N[4]? = some ("_law_rows" : Str)) (hsc : X.env.scope = defScope s_l_term) : PE X (.Name "_law_rows" pos) (liE X.K CA (mVar 4)) := re_var hn (visS hsc (by decide +kernel))
theorem lc_4_l_term {X : Cx} (hsc : X.env.scope = defScope s_l_term) : L2.Loc X.env.scope "_law_rows" := locS hsc (by decide +kernel)
theorem lc_3_l_term {X : Cx} (hsc : X.env.scope = defScope s_l_term) : L2.Loc X.env.scope "_law_term_here" := locS hsc (by decide +kernel)
theorem okb_l_term (T : Txt K mg CA fa pa fd) (n : Nat) (G : AllOk P w K mg base CA fa fd (n + 1)) (G1 : AllOk P w K mg base CA fa fd n) : FnOk P w K mg base CX0 (n + 2) (fa .l_term) (fd .l_term) ["_law_sign", "_law_left", "_law_right"] (spF K CA 3 (runBody (List.length (["_law_sign", "_law_left", "_law_right", "_law_term_here", "_law_rows"] : List Str)) (b_l_term (sem (n + 1)) (sem n)))) := by
  refine def_ok (st := s_l_term) (Ns := ["_law_sign", "_law_left", "_law_right", "_law_term_here", "_law_rows"]) (ps := ["_law_sign", "_law_left", "_law_right"]) (np := 3) (k := n + 1) (m := b_l_term (sem (n + 1)) (sem n)) T.f_l_term sc_l_term rfl fun X hP hw hK hmg hbase hN hsc hc hfn hr hpo => ?_
  subst hP hw hK hmg hbase
  have hnd : X.N.Nodup := by rw [hN]; exact sc_l_term.nd
  have n0 : X.N[0]? = some ("_law_sign" : Str) := by rw [hN]; rfl
  have n1 : X.N[1]? = some ("_law_left" : Str) := by rw [hN]; rfl
  have n2 : X.N[2]? = some ("_law_right" : Str) := by rw [hN]; rfl
  have n3 : X.N[3]? = some ("_law_term_here" : Str) := by rw [hN]; rfl
  have n4 : X.N[4]? = some ("_law_rows" : Str) := by rw [hN]; rfl
  exact (rss_cons (rs_set hnd n3 (lc_3_l_term hsc) (re_tup (ra_cons re_str (ra_cons (v0_l_term n0 hsc) (ra_cons (re_tup (ra_cons re_str (ra_cons (v1_l_term n1 hsc) ra_nil))) (ra_cons (re_tup (ra_cons re_str (ra_cons (v2_l_term n2 hsc) ra_nil))) ra_nil))))) (hf := .inl (hfn _)))
  (rss_cons (rs_if (rt_inL op_in_seq (v0_l_term n0 hsc) (rl_lst (ra_cons re_str (ra_cons re_str (ra_cons re_str ra_nil)))) (by rfl)) (rss_cons (rs_set hnd n4 (lc_4_l_term hsc) (re_tup (ra_cons (re_tup (ra_cons re_int (ra_cons re_int (ra_cons (re_tup (ra_cons re_str (ra_cons (re_tup (ra_cons re_str (ra_cons re_int ra_nil))) ra_nil))) ra_nil)))) (ra_cons (re_tup (ra_cons re_int (ra_cons re_int (ra_cons (re_tup (ra_cons re_str (ra_cons (re_tup (ra_cons re_str (ra_cons re_int ra_nil))) ra_nil))) ra_nil)))) ra_nil))) (hf := .inl (hfn _)))
  (rss_one (rs_ret (re_tup (ra_cons re_str (ra_cons (v3_l_term n3 hsc) (ra_cons (v4_l_term n4 hsc) (ra_cons re_non ra_nil)))))))) rss_nil)
  (rss_one (rs_ret (v3_l_term n3 hsc)))))
theorem ok_l_term (T : Txt K mg CA fa pa fd) (n : Nat) (G : AllOk P w K mg base CA fa fd (n + 1)) (G1 : AllOk P w K mg base CA fa fd n) : FnOk P w K mg base CX0 (n + 2) (fa .l_term) (fd .l_term) (psOf .l_term) (spF K CA (npOf .l_term) (sem (n + 2) .l_term)) := by
  rw [sem_l_term]
  exact okb_l_term T n G G1
end
end Nk66

namespace Nk66
open PySem L2 Nd
section
variable {P : Program} {w : World} {K : PySem.W.Frag} {mg : Str → Option Value} {base : Heap} {CA : Nat → Addr} {fa pa : Fi → Addr} {fd : Fi → FuncData}
theorem all_ok (T : Txt K mg CA fa pa fd) : ∀ n, AllOk P w K mg base CA fa fd n ∧ AllOk P w K mg base CA fa fd (n + 1)
  | 0 => ⟨fun i => bad_ok rfl, fun i => bad_ok rfl⟩
  | n + 1 => by
    obtain ⟨G1, G⟩ := all_ok T n
    refine ⟨G, fun i => ?_⟩
    cases i with
    | frame_words => exact bad_ok rfl
    | now_words => exact bad_ok rfl
    | cell_words => exact bad_ok rfl
    | roots => exact bad_ok rfl
    | resolved => exact bad_ok rfl
    | Renumbering_init => exact bad_ok rfl
    | Renumbering_meet => exact bad_ok rfl
    | Renumbering_word => exact bad_ok rfl
    | Renumbering_words => exact bad_ok rfl
    | Renumbering_cell => exact bad_ok rfl
    | Renumbering_frame => exact bad_ok rfl
    | Renumbering_now => exact bad_ok rfl
    | collect_cells => exact bad_ok rfl
    | size_of => exact ok_size_of T n G G1
    | Heap_init => exact ok_Heap_init T n G G1
    | Heap_make => exact ok_Heap_make T n G G1
    | Heap_cell => exact ok_Heap_cell T n G G1
    | Heap_put => exact ok_Heap_put T n G G1
    | Heap_addresses => exact bad_ok rfl
    | Heap_cells => exact bad_ok rfl
    | Heap_fits => exact ok_Heap_fits T n G G1
    | Heap_renew => exact bad_ok rfl
    | operand_word => exact ok_operand_word T n G G1
    | operand_words => exact ok_operand_words T n G G1
    | delayed_size => exact ok_delayed_size T n G G1
    | body_size => exact ok_body_size T n G G1
    | arithmetic => exact ok_arithmetic T n G G1
    | compared => exact ok_compared T n G G1
    | chosen_case => exact ok_chosen_case T n G G1
    | chosen_pick => exact ok_chosen_pick T n G G1
    | Machine_init => exact ok_Machine_init T n G G1
    | Machine_stopped => exact ok_Machine_stopped T n G G1
    | Machine_collect => exact bad_ok rfl
    | Machine_has_room => exact ok_Machine_has_room T n G G1
    | Machine_step => exact ok_Machine_step T n G G1
    | Machine_enter => exact ok_Machine_enter T n G G1
    | Machine_make => exact ok_Machine_make T n G G1
    | Machine_make_members => exact ok_Machine_make_members T n G G1
    | Machine_evaluate => exact ok_Machine_evaluate T n G G1
    | Machine_part_of => exact ok_Machine_part_of T n G G1
    | Machine_meeting_size => exact ok_Machine_meeting_size T n G G1
    | Machine_fault => exact ok_Machine_fault T n G G1
    | Machine_meet => exact ok_Machine_meet T n G G1
    | Machine_apply => exact ok_Machine_apply T n G G1
    | Machine_meet_number => exact ok_Machine_meet_number T n G G1
    | Machine_meet_second => exact ok_Machine_meet_second T n G G1
    | Machine_meet_default => exact ok_Machine_meet_default T n G G1
    | Machine_meet_constructor => exact ok_Machine_meet_constructor T n G G1
    | run_code => exact ok_run_code T n G G1
    | l_draws => exact ok_l_draws T n G G1
    | l_next => exact ok_l_next T n G G1
    | l_number => exact ok_l_number T n G G1
    | l_term => exact ok_l_term T n G G1
    | l_result => exact ok_l_result T n G G1
    | law => exact ok_law T n G G1
end
end Nk66
namespace Nk66
open PySem L2 Nd
theorem mkTxt {K : PySem.W.Frag} {h : Heap} {mg : Str → Option Value} {fl : Addr} (X : K.In h) (G : h.Ns mainGlobals mg) (hfa : mg "law" = some (.ref fl))
    {f_size_of : Addr} {od_size_of an_size_of : Option Addr} {sl_size_of : Array (Option Value)} {oc_size_of kV_size_of dc_size_of pm_size_of cd_size_of ct_size_of : Value}
    {f_Heap_init : Addr} {od_Heap_init an_Heap_init : Option Addr} {sl_Heap_init : Array (Option Value)} {oc_Heap_init kV_Heap_init dc_Heap_init pm_Heap_init cd_Heap_init ct_Heap_init : Value}
    {f_Heap_make : Addr} {od_Heap_make an_Heap_make : Option Addr} {sl_Heap_make : Array (Option Value)} {oc_Heap_make kV_Heap_make dc_Heap_make pm_Heap_make cd_Heap_make ct_Heap_make : Value}
    {f_Heap_cell : Addr} {od_Heap_cell an_Heap_cell : Option Addr} {sl_Heap_cell : Array (Option Value)} {oc_Heap_cell kV_Heap_cell dc_Heap_cell pm_Heap_cell cd_Heap_cell ct_Heap_cell : Value}
    {f_Heap_put : Addr} {od_Heap_put an_Heap_put : Option Addr} {sl_Heap_put : Array (Option Value)} {oc_Heap_put kV_Heap_put dc_Heap_put pm_Heap_put cd_Heap_put ct_Heap_put : Value}
    {f_Heap_fits : Addr} {od_Heap_fits an_Heap_fits : Option Addr} {sl_Heap_fits : Array (Option Value)} {oc_Heap_fits kV_Heap_fits dc_Heap_fits pm_Heap_fits cd_Heap_fits ct_Heap_fits : Value}
    {f_operand_word : Addr} {od_operand_word an_operand_word : Option Addr} {sl_operand_word : Array (Option Value)} {oc_operand_word kV_operand_word dc_operand_word pm_operand_word cd_operand_word ct_operand_word : Value}
    {f_operand_words : Addr} {od_operand_words an_operand_words : Option Addr} {sl_operand_words : Array (Option Value)} {oc_operand_words kV_operand_words dc_operand_words pm_operand_words cd_operand_words ct_operand_words : Value}
    {f_delayed_size : Addr} {od_delayed_size an_delayed_size : Option Addr} {sl_delayed_size : Array (Option Value)} {oc_delayed_size kV_delayed_size dc_delayed_size pm_delayed_size cd_delayed_size ct_delayed_size : Value}
    {f_body_size : Addr} {od_body_size an_body_size : Option Addr} {sl_body_size : Array (Option Value)} {oc_body_size kV_body_size dc_body_size pm_body_size cd_body_size ct_body_size : Value}
    {f_arithmetic : Addr} {od_arithmetic an_arithmetic : Option Addr} {sl_arithmetic : Array (Option Value)} {oc_arithmetic kV_arithmetic dc_arithmetic pm_arithmetic cd_arithmetic ct_arithmetic : Value}
    {f_compared : Addr} {od_compared an_compared : Option Addr} {sl_compared : Array (Option Value)} {oc_compared kV_compared dc_compared pm_compared cd_compared ct_compared : Value}
    {f_chosen_case : Addr} {od_chosen_case an_chosen_case : Option Addr} {sl_chosen_case : Array (Option Value)} {oc_chosen_case kV_chosen_case dc_chosen_case pm_chosen_case cd_chosen_case ct_chosen_case : Value}
    {f_chosen_pick : Addr} {od_chosen_pick an_chosen_pick : Option Addr} {sl_chosen_pick : Array (Option Value)} {oc_chosen_pick kV_chosen_pick dc_chosen_pick pm_chosen_pick cd_chosen_pick ct_chosen_pick : Value}
    {f_Machine_init : Addr} {od_Machine_init an_Machine_init : Option Addr} {sl_Machine_init : Array (Option Value)} {oc_Machine_init kV_Machine_init dc_Machine_init pm_Machine_init cd_Machine_init ct_Machine_init : Value}
    {f_Machine_stopped : Addr} {od_Machine_stopped an_Machine_stopped : Option Addr} {sl_Machine_stopped : Array (Option Value)} {oc_Machine_stopped kV_Machine_stopped dc_Machine_stopped pm_Machine_stopped cd_Machine_stopped ct_Machine_stopped : Value}
    {p_Machine_stopped : Addr} {rest_Machine_stopped : List Value}
    {f_Machine_collect : Addr} {od_Machine_collect an_Machine_collect : Option Addr} {sl_Machine_collect : Array (Option Value)} {oc_Machine_collect kV_Machine_collect dc_Machine_collect pm_Machine_collect cd_Machine_collect ct_Machine_collect : Value}
    {f_Machine_has_room : Addr} {od_Machine_has_room an_Machine_has_room : Option Addr} {sl_Machine_has_room : Array (Option Value)} {oc_Machine_has_room kV_Machine_has_room dc_Machine_has_room pm_Machine_has_room cd_Machine_has_room ct_Machine_has_room : Value}
    {f_Machine_step : Addr} {od_Machine_step an_Machine_step : Option Addr} {sl_Machine_step : Array (Option Value)} {oc_Machine_step kV_Machine_step dc_Machine_step pm_Machine_step cd_Machine_step ct_Machine_step : Value}
    {f_Machine_enter : Addr} {od_Machine_enter an_Machine_enter : Option Addr} {sl_Machine_enter : Array (Option Value)} {oc_Machine_enter kV_Machine_enter dc_Machine_enter pm_Machine_enter cd_Machine_enter ct_Machine_enter : Value}
    {f_Machine_make : Addr} {od_Machine_make an_Machine_make : Option Addr} {sl_Machine_make : Array (Option Value)} {oc_Machine_make kV_Machine_make dc_Machine_make pm_Machine_make cd_Machine_make ct_Machine_make : Value}
    {f_Machine_make_members : Addr} {od_Machine_make_members an_Machine_make_members : Option Addr} {sl_Machine_make_members : Array (Option Value)} {oc_Machine_make_members kV_Machine_make_members dc_Machine_make_members pm_Machine_make_members cd_Machine_make_members ct_Machine_make_members : Value}
    {f_Machine_evaluate : Addr} {od_Machine_evaluate an_Machine_evaluate : Option Addr} {sl_Machine_evaluate : Array (Option Value)} {oc_Machine_evaluate kV_Machine_evaluate dc_Machine_evaluate pm_Machine_evaluate cd_Machine_evaluate ct_Machine_evaluate : Value}
    {f_Machine_part_of : Addr} {od_Machine_part_of an_Machine_part_of : Option Addr} {sl_Machine_part_of : Array (Option Value)} {oc_Machine_part_of kV_Machine_part_of dc_Machine_part_of pm_Machine_part_of cd_Machine_part_of ct_Machine_part_of : Value}
    {f_Machine_meeting_size : Addr} {od_Machine_meeting_size an_Machine_meeting_size : Option Addr} {sl_Machine_meeting_size : Array (Option Value)} {oc_Machine_meeting_size kV_Machine_meeting_size dc_Machine_meeting_size pm_Machine_meeting_size cd_Machine_meeting_size ct_Machine_meeting_size : Value}
    {f_Machine_fault : Addr} {od_Machine_fault an_Machine_fault : Option Addr} {sl_Machine_fault : Array (Option Value)} {oc_Machine_fault kV_Machine_fault dc_Machine_fault pm_Machine_fault cd_Machine_fault ct_Machine_fault : Value}
    {f_Machine_meet : Addr} {od_Machine_meet an_Machine_meet : Option Addr} {sl_Machine_meet : Array (Option Value)} {oc_Machine_meet kV_Machine_meet dc_Machine_meet pm_Machine_meet cd_Machine_meet ct_Machine_meet : Value}
    {f_Machine_apply : Addr} {od_Machine_apply an_Machine_apply : Option Addr} {sl_Machine_apply : Array (Option Value)} {oc_Machine_apply kV_Machine_apply dc_Machine_apply pm_Machine_apply cd_Machine_apply ct_Machine_apply : Value}
    {f_Machine_meet_number : Addr} {od_Machine_meet_number an_Machine_meet_number : Option Addr} {sl_Machine_meet_number : Array (Option Value)} {oc_Machine_meet_number kV_Machine_meet_number dc_Machine_meet_number pm_Machine_meet_number cd_Machine_meet_number ct_Machine_meet_number : Value}
    {f_Machine_meet_second : Addr} {od_Machine_meet_second an_Machine_meet_second : Option Addr} {sl_Machine_meet_second : Array (Option Value)} {oc_Machine_meet_second kV_Machine_meet_second dc_Machine_meet_second pm_Machine_meet_second cd_Machine_meet_second ct_Machine_meet_second : Value}
    {f_Machine_meet_default : Addr} {od_Machine_meet_default an_Machine_meet_default : Option Addr} {sl_Machine_meet_default : Array (Option Value)} {oc_Machine_meet_default kV_Machine_meet_default dc_Machine_meet_default pm_Machine_meet_default cd_Machine_meet_default ct_Machine_meet_default : Value}
    {f_Machine_meet_constructor : Addr} {od_Machine_meet_constructor an_Machine_meet_constructor : Option Addr} {sl_Machine_meet_constructor : Array (Option Value)} {oc_Machine_meet_constructor kV_Machine_meet_constructor dc_Machine_meet_constructor pm_Machine_meet_constructor cd_Machine_meet_constructor ct_Machine_meet_constructor : Value}
    {f_run_code : Addr} {od_run_code an_run_code : Option Addr} {sl_run_code : Array (Option Value)} {oc_run_code kV_run_code dc_run_code pm_run_code cd_run_code ct_run_code : Value}
    {f_l_draws : Addr} {od_l_draws an_l_draws : Option Addr} {sl_l_draws : Array (Option Value)} {oc_l_draws kV_l_draws dc_l_draws pm_l_draws cd_l_draws ct_l_draws : Value}
    {f_l_next : Addr} {od_l_next an_l_next : Option Addr} {sl_l_next : Array (Option Value)} {oc_l_next kV_l_next dc_l_next pm_l_next cd_l_next ct_l_next : Value}
    {f_l_number : Addr} {od_l_number an_l_number : Option Addr} {sl_l_number : Array (Option Value)} {oc_l_number kV_l_number dc_l_number pm_l_number cd_l_number ct_l_number : Value}
    {f_l_term : Addr} {od_l_term an_l_term : Option Addr} {sl_l_term : Array (Option Value)} {oc_l_term kV_l_term dc_l_term pm_l_term cd_l_term ct_l_term : Value}
    {f_l_result : Addr} {od_l_result an_l_result : Option Addr} {sl_l_result : Array (Option Value)} {oc_l_result kV_l_result dc_l_result pm_l_result cd_l_result ct_l_result : Value}
    {f_law : Addr} {od_law an_law : Option Addr} {sl_law : Array (Option Value)} {oc_law kV_law dc_law pm_law cd_law ct_law : Value}
    {C_Heap : Addr}
    {C_Machine : Addr}
    {a_CONTAINERS : Addr} {dd_CONTAINERS : Option Addr} {n_CONTAINERS : Nat} {sl_CONTAINERS : Array (Option Value)} {t0_CONTAINERS t1_CONTAINERS : Tok}
    {a_ENDS : Addr} {dd_ENDS : Option Addr} {n_ENDS : Nat} {sl_ENDS : Array (Option Value)} {t0_ENDS t1_ENDS t2_ENDS t3_ENDS t4_ENDS : Tok}
    {t_LARGEST : Tok}
    (aC_Heap : PySem.W.nsIn K mainGlobals "Heap" = some (some (.ref C_Heap)))
    (aC_Machine : PySem.W.nsIn K mainGlobals "Machine" = some (some (.ref C_Machine)))
    (a_size_of : PySem.W.nsIn K mainGlobals "size_of" = some (some (.ref f_size_of)))
    (l_size_of : K.lookup f_size_of = some ⟨oc_size_of, od_size_of, .func (PySem.W.fnOf "size_of" "size_of" (defArgs s_size_of) (defBody s_size_of) (defScope s_size_of) .none kV_size_of dc_size_of pm_size_of an_size_of cd_size_of ct_size_of), sl_size_of⟩)
    (c_size_of : PySem.W.codeIn K cd_size_of "size_of" = true)
    (k_size_of : PySem.W.keepIn K (.ref f_size_of) = true)
    (a_Heap_init : PySem.W.findIn K (.ref C_Heap) "__init__" = some (some (.ref f_Heap_init)))
    (i_Heap_init : PySem.W.isFn K (.ref f_Heap_init) = true)
    (l_Heap_init : K.lookup f_Heap_init = some ⟨oc_Heap_init, od_Heap_init, .func (PySem.W.fnOf "__init__" "Heap.__init__" (defArgs s_Heap_init) (defBody s_Heap_init) (defScope s_Heap_init) .none kV_Heap_init dc_Heap_init pm_Heap_init an_Heap_init cd_Heap_init ct_Heap_init), sl_Heap_init⟩)
    (c_Heap_init : PySem.W.codeIn K cd_Heap_init "Heap.__init__" = true)
    (k_Heap_init : PySem.W.keepIn K (.ref f_Heap_init) = true)
    (a_Heap_make : PySem.W.findIn K (.ref C_Heap) "make" = some (some (.ref f_Heap_make)))
    (i_Heap_make : PySem.W.isFn K (.ref f_Heap_make) = true)
    (l_Heap_make : K.lookup f_Heap_make = some ⟨oc_Heap_make, od_Heap_make, .func (PySem.W.fnOf "make" "Heap.make" (defArgs s_Heap_make) (defBody s_Heap_make) (defScope s_Heap_make) .none kV_Heap_make dc_Heap_make pm_Heap_make an_Heap_make cd_Heap_make ct_Heap_make), sl_Heap_make⟩)
    (c_Heap_make : PySem.W.codeIn K cd_Heap_make "Heap.make" = true)
    (k_Heap_make : PySem.W.keepIn K (.ref f_Heap_make) = true)
    (a_Heap_cell : PySem.W.findIn K (.ref C_Heap) "cell" = some (some (.ref f_Heap_cell)))
    (i_Heap_cell : PySem.W.isFn K (.ref f_Heap_cell) = true)
    (l_Heap_cell : K.lookup f_Heap_cell = some ⟨oc_Heap_cell, od_Heap_cell, .func (PySem.W.fnOf "cell" "Heap.cell" (defArgs s_Heap_cell) (defBody s_Heap_cell) (defScope s_Heap_cell) .none kV_Heap_cell dc_Heap_cell pm_Heap_cell an_Heap_cell cd_Heap_cell ct_Heap_cell), sl_Heap_cell⟩)
    (c_Heap_cell : PySem.W.codeIn K cd_Heap_cell "Heap.cell" = true)
    (k_Heap_cell : PySem.W.keepIn K (.ref f_Heap_cell) = true)
    (a_Heap_put : PySem.W.findIn K (.ref C_Heap) "put" = some (some (.ref f_Heap_put)))
    (i_Heap_put : PySem.W.isFn K (.ref f_Heap_put) = true)
    (l_Heap_put : K.lookup f_Heap_put = some ⟨oc_Heap_put, od_Heap_put, .func (PySem.W.fnOf "put" "Heap.put" (defArgs s_Heap_put) (defBody s_Heap_put) (defScope s_Heap_put) .none kV_Heap_put dc_Heap_put pm_Heap_put an_Heap_put cd_Heap_put ct_Heap_put), sl_Heap_put⟩)
    (c_Heap_put : PySem.W.codeIn K cd_Heap_put "Heap.put" = true)
    (k_Heap_put : PySem.W.keepIn K (.ref f_Heap_put) = true)
    (a_Heap_fits : PySem.W.findIn K (.ref C_Heap) "fits" = some (some (.ref f_Heap_fits)))
    (i_Heap_fits : PySem.W.isFn K (.ref f_Heap_fits) = true)
    (l_Heap_fits : K.lookup f_Heap_fits = some ⟨oc_Heap_fits, od_Heap_fits, .func (PySem.W.fnOf "fits" "Heap.fits" (defArgs s_Heap_fits) (defBody s_Heap_fits) (defScope s_Heap_fits) .none kV_Heap_fits dc_Heap_fits pm_Heap_fits an_Heap_fits cd_Heap_fits ct_Heap_fits), sl_Heap_fits⟩)
    (c_Heap_fits : PySem.W.codeIn K cd_Heap_fits "Heap.fits" = true)
    (k_Heap_fits : PySem.W.keepIn K (.ref f_Heap_fits) = true)
    (a_operand_word : PySem.W.nsIn K mainGlobals "operand_word" = some (some (.ref f_operand_word)))
    (l_operand_word : K.lookup f_operand_word = some ⟨oc_operand_word, od_operand_word, .func (PySem.W.fnOf "operand_word" "operand_word" (defArgs s_operand_word) (defBody s_operand_word) (defScope s_operand_word) .none kV_operand_word dc_operand_word pm_operand_word an_operand_word cd_operand_word ct_operand_word), sl_operand_word⟩)
    (c_operand_word : PySem.W.codeIn K cd_operand_word "operand_word" = true)
    (k_operand_word : PySem.W.keepIn K (.ref f_operand_word) = true)
    (a_operand_words : PySem.W.nsIn K mainGlobals "operand_words" = some (some (.ref f_operand_words)))
    (l_operand_words : K.lookup f_operand_words = some ⟨oc_operand_words, od_operand_words, .func (PySem.W.fnOf "operand_words" "operand_words" (defArgs s_operand_words) (defBody s_operand_words) (defScope s_operand_words) .none kV_operand_words dc_operand_words pm_operand_words an_operand_words cd_operand_words ct_operand_words), sl_operand_words⟩)
    (c_operand_words : PySem.W.codeIn K cd_operand_words "operand_words" = true)
    (k_operand_words : PySem.W.keepIn K (.ref f_operand_words) = true)
    (a_delayed_size : PySem.W.nsIn K mainGlobals "delayed_size" = some (some (.ref f_delayed_size)))
    (l_delayed_size : K.lookup f_delayed_size = some ⟨oc_delayed_size, od_delayed_size, .func (PySem.W.fnOf "delayed_size" "delayed_size" (defArgs s_delayed_size) (defBody s_delayed_size) (defScope s_delayed_size) .none kV_delayed_size dc_delayed_size pm_delayed_size an_delayed_size cd_delayed_size ct_delayed_size), sl_delayed_size⟩)
    (c_delayed_size : PySem.W.codeIn K cd_delayed_size "delayed_size" = true)
    (k_delayed_size : PySem.W.keepIn K (.ref f_delayed_size) = true)
    (a_body_size : PySem.W.nsIn K mainGlobals "body_size" = some (some (.ref f_body_size)))
    (l_body_size : K.lookup f_body_size = some ⟨oc_body_size, od_body_size, .func (PySem.W.fnOf "body_size" "body_size" (defArgs s_body_size) (defBody s_body_size) (defScope s_body_size) .none kV_body_size dc_body_size pm_body_size an_body_size cd_body_size ct_body_size), sl_body_size⟩)
    (c_body_size : PySem.W.codeIn K cd_body_size "body_size" = true)
    (k_body_size : PySem.W.keepIn K (.ref f_body_size) = true)
    (a_arithmetic : PySem.W.nsIn K mainGlobals "arithmetic" = some (some (.ref f_arithmetic)))
    (l_arithmetic : K.lookup f_arithmetic = some ⟨oc_arithmetic, od_arithmetic, .func (PySem.W.fnOf "arithmetic" "arithmetic" (defArgs s_arithmetic) (defBody s_arithmetic) (defScope s_arithmetic) .none kV_arithmetic dc_arithmetic pm_arithmetic an_arithmetic cd_arithmetic ct_arithmetic), sl_arithmetic⟩)
    (c_arithmetic : PySem.W.codeIn K cd_arithmetic "arithmetic" = true)
    (k_arithmetic : PySem.W.keepIn K (.ref f_arithmetic) = true)
    (a_compared : PySem.W.nsIn K mainGlobals "compared" = some (some (.ref f_compared)))
    (l_compared : K.lookup f_compared = some ⟨oc_compared, od_compared, .func (PySem.W.fnOf "compared" "compared" (defArgs s_compared) (defBody s_compared) (defScope s_compared) .none kV_compared dc_compared pm_compared an_compared cd_compared ct_compared), sl_compared⟩)
    (c_compared : PySem.W.codeIn K cd_compared "compared" = true)
    (k_compared : PySem.W.keepIn K (.ref f_compared) = true)
    (a_chosen_case : PySem.W.nsIn K mainGlobals "chosen_case" = some (some (.ref f_chosen_case)))
    (l_chosen_case : K.lookup f_chosen_case = some ⟨oc_chosen_case, od_chosen_case, .func (PySem.W.fnOf "chosen_case" "chosen_case" (defArgs s_chosen_case) (defBody s_chosen_case) (defScope s_chosen_case) .none kV_chosen_case dc_chosen_case pm_chosen_case an_chosen_case cd_chosen_case ct_chosen_case), sl_chosen_case⟩)
    (c_chosen_case : PySem.W.codeIn K cd_chosen_case "chosen_case" = true)
    (k_chosen_case : PySem.W.keepIn K (.ref f_chosen_case) = true)
    (a_chosen_pick : PySem.W.nsIn K mainGlobals "chosen_pick" = some (some (.ref f_chosen_pick)))
    (l_chosen_pick : K.lookup f_chosen_pick = some ⟨oc_chosen_pick, od_chosen_pick, .func (PySem.W.fnOf "chosen_pick" "chosen_pick" (defArgs s_chosen_pick) (defBody s_chosen_pick) (defScope s_chosen_pick) .none kV_chosen_pick dc_chosen_pick pm_chosen_pick an_chosen_pick cd_chosen_pick ct_chosen_pick), sl_chosen_pick⟩)
    (c_chosen_pick : PySem.W.codeIn K cd_chosen_pick "chosen_pick" = true)
    (k_chosen_pick : PySem.W.keepIn K (.ref f_chosen_pick) = true)
    (a_Machine_init : PySem.W.findIn K (.ref C_Machine) "__init__" = some (some (.ref f_Machine_init)))
    (i_Machine_init : PySem.W.isFn K (.ref f_Machine_init) = true)
    (l_Machine_init : K.lookup f_Machine_init = some ⟨oc_Machine_init, od_Machine_init, .func (PySem.W.fnOf "__init__" "Machine.__init__" (defArgs s_Machine_init) (defBody s_Machine_init) (defScope s_Machine_init) .none kV_Machine_init dc_Machine_init pm_Machine_init an_Machine_init cd_Machine_init ct_Machine_init), sl_Machine_init⟩)
    (c_Machine_init : PySem.W.codeIn K cd_Machine_init "Machine.__init__" = true)
    (k_Machine_init : PySem.W.keepIn K (.ref f_Machine_init) = true)
    (a_Machine_stopped : PySem.W.findIn K (.ref C_Machine) "stopped" = some (some (.ref p_Machine_stopped)))
    (x_Machine_stopped : PySem.W.specialIn K (.ref p_Machine_stopped) "__get__" = some (some (.builtin "property.__get__")))
    (y_Machine_stopped : PySem.W.takesIn K (.ref p_Machine_stopped) = some true)
    (z_Machine_stopped : PySem.W.recIn K p_Machine_stopped "property" = some (.ref f_Machine_stopped :: rest_Machine_stopped))
    (l_Machine_stopped : K.lookup f_Machine_stopped = some ⟨oc_Machine_stopped, od_Machine_stopped, .func (PySem.W.fnOf "stopped" "Machine.stopped" (defArgs s_Machine_stopped) (defBody s_Machine_stopped) (defScope s_Machine_stopped) .none kV_Machine_stopped dc_Machine_stopped pm_Machine_stopped an_Machine_stopped cd_Machine_stopped ct_Machine_stopped), sl_Machine_stopped⟩)
    (c_Machine_stopped : PySem.W.codeIn K cd_Machine_stopped "Machine.stopped" = true)
    (k_Machine_stopped : PySem.W.keepIn K (.ref f_Machine_stopped) = true)
    (a_Machine_collect : PySem.W.findIn K (.ref C_Machine) "collect" = some (some (.ref f_Machine_collect)))
    (i_Machine_collect : PySem.W.isFn K (.ref f_Machine_collect) = true)
    (l_Machine_collect : K.lookup f_Machine_collect = some ⟨oc_Machine_collect, od_Machine_collect, .func (PySem.W.fnOf "collect" "Machine.collect" (defArgs s_Machine_collect) (defBody s_Machine_collect) (defScope s_Machine_collect) .none kV_Machine_collect dc_Machine_collect pm_Machine_collect an_Machine_collect cd_Machine_collect ct_Machine_collect), sl_Machine_collect⟩)
    (c_Machine_collect : PySem.W.codeIn K cd_Machine_collect "Machine.collect" = true)
    (k_Machine_collect : PySem.W.keepIn K (.ref f_Machine_collect) = true)
    (a_Machine_has_room : PySem.W.findIn K (.ref C_Machine) "has_room" = some (some (.ref f_Machine_has_room)))
    (i_Machine_has_room : PySem.W.isFn K (.ref f_Machine_has_room) = true)
    (l_Machine_has_room : K.lookup f_Machine_has_room = some ⟨oc_Machine_has_room, od_Machine_has_room, .func (PySem.W.fnOf "has_room" "Machine.has_room" (defArgs s_Machine_has_room) (defBody s_Machine_has_room) (defScope s_Machine_has_room) .none kV_Machine_has_room dc_Machine_has_room pm_Machine_has_room an_Machine_has_room cd_Machine_has_room ct_Machine_has_room), sl_Machine_has_room⟩)
    (c_Machine_has_room : PySem.W.codeIn K cd_Machine_has_room "Machine.has_room" = true)
    (k_Machine_has_room : PySem.W.keepIn K (.ref f_Machine_has_room) = true)
    (a_Machine_step : PySem.W.findIn K (.ref C_Machine) "step" = some (some (.ref f_Machine_step)))
    (i_Machine_step : PySem.W.isFn K (.ref f_Machine_step) = true)
    (l_Machine_step : K.lookup f_Machine_step = some ⟨oc_Machine_step, od_Machine_step, .func (PySem.W.fnOf "step" "Machine.step" (defArgs s_Machine_step) (defBody s_Machine_step) (defScope s_Machine_step) .none kV_Machine_step dc_Machine_step pm_Machine_step an_Machine_step cd_Machine_step ct_Machine_step), sl_Machine_step⟩)
    (c_Machine_step : PySem.W.codeIn K cd_Machine_step "Machine.step" = true)
    (k_Machine_step : PySem.W.keepIn K (.ref f_Machine_step) = true)
    (a_Machine_enter : PySem.W.findIn K (.ref C_Machine) "enter" = some (some (.ref f_Machine_enter)))
    (i_Machine_enter : PySem.W.isFn K (.ref f_Machine_enter) = true)
    (l_Machine_enter : K.lookup f_Machine_enter = some ⟨oc_Machine_enter, od_Machine_enter, .func (PySem.W.fnOf "enter" "Machine.enter" (defArgs s_Machine_enter) (defBody s_Machine_enter) (defScope s_Machine_enter) .none kV_Machine_enter dc_Machine_enter pm_Machine_enter an_Machine_enter cd_Machine_enter ct_Machine_enter), sl_Machine_enter⟩)
    (c_Machine_enter : PySem.W.codeIn K cd_Machine_enter "Machine.enter" = true)
    (k_Machine_enter : PySem.W.keepIn K (.ref f_Machine_enter) = true)
    (a_Machine_make : PySem.W.findIn K (.ref C_Machine) "make" = some (some (.ref f_Machine_make)))
    (i_Machine_make : PySem.W.isFn K (.ref f_Machine_make) = true)
    (l_Machine_make : K.lookup f_Machine_make = some ⟨oc_Machine_make, od_Machine_make, .func (PySem.W.fnOf "make" "Machine.make" (defArgs s_Machine_make) (defBody s_Machine_make) (defScope s_Machine_make) .none kV_Machine_make dc_Machine_make pm_Machine_make an_Machine_make cd_Machine_make ct_Machine_make), sl_Machine_make⟩)
    (c_Machine_make : PySem.W.codeIn K cd_Machine_make "Machine.make" = true)
    (k_Machine_make : PySem.W.keepIn K (.ref f_Machine_make) = true)
    (a_Machine_make_members : PySem.W.findIn K (.ref C_Machine) "make_members" = some (some (.ref f_Machine_make_members)))
    (i_Machine_make_members : PySem.W.isFn K (.ref f_Machine_make_members) = true)
    (l_Machine_make_members : K.lookup f_Machine_make_members = some ⟨oc_Machine_make_members, od_Machine_make_members, .func (PySem.W.fnOf "make_members" "Machine.make_members" (defArgs s_Machine_make_members) (defBody s_Machine_make_members) (defScope s_Machine_make_members) .none kV_Machine_make_members dc_Machine_make_members pm_Machine_make_members an_Machine_make_members cd_Machine_make_members ct_Machine_make_members), sl_Machine_make_members⟩)
    (c_Machine_make_members : PySem.W.codeIn K cd_Machine_make_members "Machine.make_members" = true)
    (k_Machine_make_members : PySem.W.keepIn K (.ref f_Machine_make_members) = true)
    (a_Machine_evaluate : PySem.W.findIn K (.ref C_Machine) "evaluate" = some (some (.ref f_Machine_evaluate)))
    (i_Machine_evaluate : PySem.W.isFn K (.ref f_Machine_evaluate) = true)
    (l_Machine_evaluate : K.lookup f_Machine_evaluate = some ⟨oc_Machine_evaluate, od_Machine_evaluate, .func (PySem.W.fnOf "evaluate" "Machine.evaluate" (defArgs s_Machine_evaluate) (defBody s_Machine_evaluate) (defScope s_Machine_evaluate) .none kV_Machine_evaluate dc_Machine_evaluate pm_Machine_evaluate an_Machine_evaluate cd_Machine_evaluate ct_Machine_evaluate), sl_Machine_evaluate⟩)
    (c_Machine_evaluate : PySem.W.codeIn K cd_Machine_evaluate "Machine.evaluate" = true)
    (k_Machine_evaluate : PySem.W.keepIn K (.ref f_Machine_evaluate) = true)
    (a_Machine_part_of : PySem.W.findIn K (.ref C_Machine) "part_of" = some (some (.ref f_Machine_part_of)))
    (i_Machine_part_of : PySem.W.isFn K (.ref f_Machine_part_of) = true)
    (l_Machine_part_of : K.lookup f_Machine_part_of = some ⟨oc_Machine_part_of, od_Machine_part_of, .func (PySem.W.fnOf "part_of" "Machine.part_of" (defArgs s_Machine_part_of) (defBody s_Machine_part_of) (defScope s_Machine_part_of) .none kV_Machine_part_of dc_Machine_part_of pm_Machine_part_of an_Machine_part_of cd_Machine_part_of ct_Machine_part_of), sl_Machine_part_of⟩)
    (c_Machine_part_of : PySem.W.codeIn K cd_Machine_part_of "Machine.part_of" = true)
    (k_Machine_part_of : PySem.W.keepIn K (.ref f_Machine_part_of) = true)
    (a_Machine_meeting_size : PySem.W.findIn K (.ref C_Machine) "meeting_size" = some (some (.ref f_Machine_meeting_size)))
    (i_Machine_meeting_size : PySem.W.isFn K (.ref f_Machine_meeting_size) = true)
    (l_Machine_meeting_size : K.lookup f_Machine_meeting_size = some ⟨oc_Machine_meeting_size, od_Machine_meeting_size, .func (PySem.W.fnOf "meeting_size" "Machine.meeting_size" (defArgs s_Machine_meeting_size) (defBody s_Machine_meeting_size) (defScope s_Machine_meeting_size) .none kV_Machine_meeting_size dc_Machine_meeting_size pm_Machine_meeting_size an_Machine_meeting_size cd_Machine_meeting_size ct_Machine_meeting_size), sl_Machine_meeting_size⟩)
    (c_Machine_meeting_size : PySem.W.codeIn K cd_Machine_meeting_size "Machine.meeting_size" = true)
    (k_Machine_meeting_size : PySem.W.keepIn K (.ref f_Machine_meeting_size) = true)
    (a_Machine_fault : PySem.W.findIn K (.ref C_Machine) "fault" = some (some (.ref f_Machine_fault)))
    (i_Machine_fault : PySem.W.isFn K (.ref f_Machine_fault) = true)
    (l_Machine_fault : K.lookup f_Machine_fault = some ⟨oc_Machine_fault, od_Machine_fault, .func (PySem.W.fnOf "fault" "Machine.fault" (defArgs s_Machine_fault) (defBody s_Machine_fault) (defScope s_Machine_fault) .none kV_Machine_fault dc_Machine_fault pm_Machine_fault an_Machine_fault cd_Machine_fault ct_Machine_fault), sl_Machine_fault⟩)
    (c_Machine_fault : PySem.W.codeIn K cd_Machine_fault "Machine.fault" = true)
    (k_Machine_fault : PySem.W.keepIn K (.ref f_Machine_fault) = true)
    (a_Machine_meet : PySem.W.findIn K (.ref C_Machine) "meet" = some (some (.ref f_Machine_meet)))
    (i_Machine_meet : PySem.W.isFn K (.ref f_Machine_meet) = true)
    (l_Machine_meet : K.lookup f_Machine_meet = some ⟨oc_Machine_meet, od_Machine_meet, .func (PySem.W.fnOf "meet" "Machine.meet" (defArgs s_Machine_meet) (defBody s_Machine_meet) (defScope s_Machine_meet) .none kV_Machine_meet dc_Machine_meet pm_Machine_meet an_Machine_meet cd_Machine_meet ct_Machine_meet), sl_Machine_meet⟩)
    (c_Machine_meet : PySem.W.codeIn K cd_Machine_meet "Machine.meet" = true)
    (k_Machine_meet : PySem.W.keepIn K (.ref f_Machine_meet) = true)
    (a_Machine_apply : PySem.W.findIn K (.ref C_Machine) "apply" = some (some (.ref f_Machine_apply)))
    (i_Machine_apply : PySem.W.isFn K (.ref f_Machine_apply) = true)
    (l_Machine_apply : K.lookup f_Machine_apply = some ⟨oc_Machine_apply, od_Machine_apply, .func (PySem.W.fnOf "apply" "Machine.apply" (defArgs s_Machine_apply) (defBody s_Machine_apply) (defScope s_Machine_apply) .none kV_Machine_apply dc_Machine_apply pm_Machine_apply an_Machine_apply cd_Machine_apply ct_Machine_apply), sl_Machine_apply⟩)
    (c_Machine_apply : PySem.W.codeIn K cd_Machine_apply "Machine.apply" = true)
    (k_Machine_apply : PySem.W.keepIn K (.ref f_Machine_apply) = true)
    (a_Machine_meet_number : PySem.W.findIn K (.ref C_Machine) "meet_number" = some (some (.ref f_Machine_meet_number)))
    (i_Machine_meet_number : PySem.W.isFn K (.ref f_Machine_meet_number) = true)
    (l_Machine_meet_number : K.lookup f_Machine_meet_number = some ⟨oc_Machine_meet_number, od_Machine_meet_number, .func (PySem.W.fnOf "meet_number" "Machine.meet_number" (defArgs s_Machine_meet_number) (defBody s_Machine_meet_number) (defScope s_Machine_meet_number) .none kV_Machine_meet_number dc_Machine_meet_number pm_Machine_meet_number an_Machine_meet_number cd_Machine_meet_number ct_Machine_meet_number), sl_Machine_meet_number⟩)
    (c_Machine_meet_number : PySem.W.codeIn K cd_Machine_meet_number "Machine.meet_number" = true)
    (k_Machine_meet_number : PySem.W.keepIn K (.ref f_Machine_meet_number) = true)
    (a_Machine_meet_second : PySem.W.findIn K (.ref C_Machine) "meet_second" = some (some (.ref f_Machine_meet_second)))
    (i_Machine_meet_second : PySem.W.isFn K (.ref f_Machine_meet_second) = true)
    (l_Machine_meet_second : K.lookup f_Machine_meet_second = some ⟨oc_Machine_meet_second, od_Machine_meet_second, .func (PySem.W.fnOf "meet_second" "Machine.meet_second" (defArgs s_Machine_meet_second) (defBody s_Machine_meet_second) (defScope s_Machine_meet_second) .none kV_Machine_meet_second dc_Machine_meet_second pm_Machine_meet_second an_Machine_meet_second cd_Machine_meet_second ct_Machine_meet_second), sl_Machine_meet_second⟩)
    (c_Machine_meet_second : PySem.W.codeIn K cd_Machine_meet_second "Machine.meet_second" = true)
    (k_Machine_meet_second : PySem.W.keepIn K (.ref f_Machine_meet_second) = true)
    (a_Machine_meet_default : PySem.W.findIn K (.ref C_Machine) "meet_default" = some (some (.ref f_Machine_meet_default)))
    (i_Machine_meet_default : PySem.W.isFn K (.ref f_Machine_meet_default) = true)
    (l_Machine_meet_default : K.lookup f_Machine_meet_default = some ⟨oc_Machine_meet_default, od_Machine_meet_default, .func (PySem.W.fnOf "meet_default" "Machine.meet_default" (defArgs s_Machine_meet_default) (defBody s_Machine_meet_default) (defScope s_Machine_meet_default) .none kV_Machine_meet_default dc_Machine_meet_default pm_Machine_meet_default an_Machine_meet_default cd_Machine_meet_default ct_Machine_meet_default), sl_Machine_meet_default⟩)
    (c_Machine_meet_default : PySem.W.codeIn K cd_Machine_meet_default "Machine.meet_default" = true)
    (k_Machine_meet_default : PySem.W.keepIn K (.ref f_Machine_meet_default) = true)
    (a_Machine_meet_constructor : PySem.W.findIn K (.ref C_Machine) "meet_constructor" = some (some (.ref f_Machine_meet_constructor)))
    (i_Machine_meet_constructor : PySem.W.isFn K (.ref f_Machine_meet_constructor) = true)
    (l_Machine_meet_constructor : K.lookup f_Machine_meet_constructor = some ⟨oc_Machine_meet_constructor, od_Machine_meet_constructor, .func (PySem.W.fnOf "meet_constructor" "Machine.meet_constructor" (defArgs s_Machine_meet_constructor) (defBody s_Machine_meet_constructor) (defScope s_Machine_meet_constructor) .none kV_Machine_meet_constructor dc_Machine_meet_constructor pm_Machine_meet_constructor an_Machine_meet_constructor cd_Machine_meet_constructor ct_Machine_meet_constructor), sl_Machine_meet_constructor⟩)
    (c_Machine_meet_constructor : PySem.W.codeIn K cd_Machine_meet_constructor "Machine.meet_constructor" = true)
    (k_Machine_meet_constructor : PySem.W.keepIn K (.ref f_Machine_meet_constructor) = true)
    (a_run_code : PySem.W.nsIn K mainGlobals "run_code" = some (some (.ref f_run_code)))
    (l_run_code : K.lookup f_run_code = some ⟨oc_run_code, od_run_code, .func (PySem.W.fnOf "run_code" "run_code" (defArgs s_run_code) (defBody s_run_code) (defScope s_run_code) .none kV_run_code dc_run_code pm_run_code an_run_code cd_run_code ct_run_code), sl_run_code⟩)
    (c_run_code : PySem.W.codeIn K cd_run_code "run_code" = true)
    (k_run_code : PySem.W.keepIn K (.ref f_run_code) = true)
    (a_l_draws : PySem.W.nsIn K mainGlobals "_law_draws" = some (some (.ref f_l_draws)))
    (l_l_draws : K.lookup f_l_draws = some ⟨oc_l_draws, od_l_draws, .func (PySem.W.fnOf "_law_draws" "_law_draws" (defArgs s_l_draws) (defBody s_l_draws) (defScope s_l_draws) .none kV_l_draws dc_l_draws pm_l_draws an_l_draws cd_l_draws ct_l_draws), sl_l_draws⟩)
    (c_l_draws : PySem.W.codeIn K cd_l_draws "_law_draws" = true)
    (k_l_draws : PySem.W.keepIn K (.ref f_l_draws) = true)
    (a_l_next : PySem.W.nsIn K mainGlobals "_law_next" = some (some (.ref f_l_next)))
    (l_l_next : K.lookup f_l_next = some ⟨oc_l_next, od_l_next, .func (PySem.W.fnOf "_law_next" "_law_next" (defArgs s_l_next) (defBody s_l_next) (defScope s_l_next) .none kV_l_next dc_l_next pm_l_next an_l_next cd_l_next ct_l_next), sl_l_next⟩)
    (c_l_next : PySem.W.codeIn K cd_l_next "_law_next" = true)
    (k_l_next : PySem.W.keepIn K (.ref f_l_next) = true)
    (a_l_number : PySem.W.nsIn K mainGlobals "_law_number" = some (some (.ref f_l_number)))
    (l_l_number : K.lookup f_l_number = some ⟨oc_l_number, od_l_number, .func (PySem.W.fnOf "_law_number" "_law_number" (defArgs s_l_number) (defBody s_l_number) (defScope s_l_number) .none kV_l_number dc_l_number pm_l_number an_l_number cd_l_number ct_l_number), sl_l_number⟩)
    (c_l_number : PySem.W.codeIn K cd_l_number "_law_number" = true)
    (k_l_number : PySem.W.keepIn K (.ref f_l_number) = true)
    (a_l_term : PySem.W.nsIn K mainGlobals "_law_term" = some (some (.ref f_l_term)))
    (l_l_term : K.lookup f_l_term = some ⟨oc_l_term, od_l_term, .func (PySem.W.fnOf "_law_term" "_law_term" (defArgs s_l_term) (defBody s_l_term) (defScope s_l_term) .none kV_l_term dc_l_term pm_l_term an_l_term cd_l_term ct_l_term), sl_l_term⟩)
    (c_l_term : PySem.W.codeIn K cd_l_term "_law_term" = true)
    (k_l_term : PySem.W.keepIn K (.ref f_l_term) = true)
    (a_l_result : PySem.W.nsIn K mainGlobals "_law_result" = some (some (.ref f_l_result)))
    (l_l_result : K.lookup f_l_result = some ⟨oc_l_result, od_l_result, .func (PySem.W.fnOf "_law_result" "_law_result" (defArgs s_l_result) (defBody s_l_result) (defScope s_l_result) .none kV_l_result dc_l_result pm_l_result an_l_result cd_l_result ct_l_result), sl_l_result⟩)
    (c_l_result : PySem.W.codeIn K cd_l_result "_law_result" = true)
    (k_l_result : PySem.W.keepIn K (.ref f_l_result) = true)
    (a_law : PySem.W.nsIn K mainGlobals "law" = some (some (.ref f_law)))
    (l_law : K.lookup f_law = some ⟨oc_law, od_law, .func (PySem.W.fnOf "law" "law" (defArgs s_law) (defBody s_law) (defScope s_law) .none kV_law dc_law pm_law an_law cd_law ct_law), sl_law⟩)
    (c_law : PySem.W.codeIn K cd_law "law" = true)
    (k_law : PySem.W.keepIn K (.ref f_law) = true)
    (pg_Heap : PySem.W.plainGet K C_Heap Str.empty = true)
    (hd_Heap : PySem.W.hasDictIn K C_Heap = true)
    (po_Heap : PySem.W.plainOver K C_Heap = true)
    (sa_Heap : PySem.W.findIn K (.ref C_Heap) "__setattr__" = some (some (.builtin "object.__setattr__")))
    (mk_Heap : PySem.W.makesIn K C_Heap = true)
    (kc_Heap : PySem.W.keepIn K (.ref C_Heap) = true)
    (n_Heap__cells : PySem.W.findIn K (.ref C_Heap) "_cells" = some none)
    (n_Heap_next_address : PySem.W.findIn K (.ref C_Heap) "next_address" = some none)
    (n_Heap_room : PySem.W.findIn K (.ref C_Heap) "room" = some none)
    (n_Heap_used : PySem.W.findIn K (.ref C_Heap) "used" = some none)
    (pg_Machine : PySem.W.plainGet K C_Machine Str.empty = true)
    (hd_Machine : PySem.W.hasDictIn K C_Machine = true)
    (po_Machine : PySem.W.plainOver K C_Machine = true)
    (sa_Machine : PySem.W.findIn K (.ref C_Machine) "__setattr__" = some (some (.builtin "object.__setattr__")))
    (mk_Machine : PySem.W.makesIn K C_Machine = true)
    (kc_Machine : PySem.W.keepIn K (.ref C_Machine) = true)
    (n_Machine_collections : PySem.W.findIn K (.ref C_Machine) "collections" = some none)
    (n_Machine_entered : PySem.W.findIn K (.ref C_Machine) "entered" = some none)
    (n_Machine_events : PySem.W.findIn K (.ref C_Machine) "events" = some none)
    (n_Machine_functions : PySem.W.findIn K (.ref C_Machine) "functions" = some none)
    (n_Machine_heap : PySem.W.findIn K (.ref C_Machine) "heap" = some none)
    (n_Machine_now : PySem.W.findIn K (.ref C_Machine) "now" = some none)
    (n_Machine_serial : PySem.W.findIn K (.ref C_Machine) "serial" = some none)
    (n_Machine_stack : PySem.W.findIn K (.ref C_Machine) "stack" = some none)
    (z_abs : PySem.W.nsIn K mainGlobals "abs" = some none)
    (z_enumerate : PySem.W.nsIn K mainGlobals "enumerate" = some none)
    (z_int : PySem.W.nsIn K mainGlobals "int" = some none)
    (z_len : PySem.W.nsIn K mainGlobals "len" = some none)
    (z_max : PySem.W.nsIn K mainGlobals "max" = some none)
    (z_range : PySem.W.nsIn K mainGlobals "range" = some none)
    (z_sum : PySem.W.nsIn K mainGlobals "sum" = some none)
    (z_tuple : PySem.W.nsIn K mainGlobals "tuple" = some none)
    (u_CONTAINERS : PySem.W.nsIn K mainGlobals "CONTAINERS" = some (some (.ref a_CONTAINERS)))
    (q_CONTAINERS : K.lookup a_CONTAINERS = some ⟨.type "tuple", dd_CONTAINERS, .seq #[.str "con" t0_CONTAINERS, .str "part" t1_CONTAINERS] n_CONTAINERS, sl_CONTAINERS⟩)
    (u_ENDS : PySem.W.nsIn K mainGlobals "ENDS" = some (some (.ref a_ENDS)))
    (q_ENDS : K.lookup a_ENDS = some ⟨.type "tuple", dd_ENDS, .seq #[.str "end" t0_ENDS, .str "fault" t1_ENDS, .str "loop" t2_ENDS, .str "full" t3_ENDS, .str "stuck" t4_ENDS] n_ENDS, sl_ENDS⟩)
    (u_LARGEST : PySem.W.nsIn K mainGlobals "LARGEST" = some (some (.int 1000000000000000 t_LARGEST)))
    : ∃ (CA : Nat → Addr) (fa pa : Fi → Addr) (fd : Fi → FuncData), Txt K mg CA fa pa fd ∧ fa .law = fl ∧ ∀ (s : Shared) (u : Value), BindsTo s (fd .law) ⟨[u], []⟩ [("_law_script", u)] := by
  have e := hfa.symm.trans (PySem.W.mg_of X G a_law)
  cases e
  refine ⟨fun i => if i = 1 then C_Heap else if i = 2 then C_Machine else 0, (fun
    | .frame_words => 0
    | .now_words => 0
    | .cell_words => 0
    | .roots => 0
    | .resolved => 0
    | .Renumbering_init => 0
    | .Renumbering_meet => 0
    | .Renumbering_word => 0
    | .Renumbering_words => 0
    | .Renumbering_cell => 0
    | .Renumbering_frame => 0
    | .Renumbering_now => 0
    | .collect_cells => 0
    | .size_of => f_size_of
    | .Heap_init => f_Heap_init
    | .Heap_make => f_Heap_make
    | .Heap_cell => f_Heap_cell
    | .Heap_put => f_Heap_put
    | .Heap_addresses => 0
    | .Heap_cells => 0
    | .Heap_fits => f_Heap_fits
    | .Heap_renew => 0
    | .operand_word => f_operand_word
    | .operand_words => f_operand_words
    | .delayed_size => f_delayed_size
    | .body_size => f_body_size
    | .arithmetic => f_arithmetic
    | .compared => f_compared
    | .chosen_case => f_chosen_case
    | .chosen_pick => f_chosen_pick
    | .Machine_init => f_Machine_init
    | .Machine_stopped => f_Machine_stopped
    | .Machine_collect => f_Machine_collect
    | .Machine_has_room => f_Machine_has_room
    | .Machine_step => f_Machine_step
    | .Machine_enter => f_Machine_enter
    | .Machine_make => f_Machine_make
    | .Machine_make_members => f_Machine_make_members
    | .Machine_evaluate => f_Machine_evaluate
    | .Machine_part_of => f_Machine_part_of
    | .Machine_meeting_size => f_Machine_meeting_size
    | .Machine_fault => f_Machine_fault
    | .Machine_meet => f_Machine_meet
    | .Machine_apply => f_Machine_apply
    | .Machine_meet_number => f_Machine_meet_number
    | .Machine_meet_second => f_Machine_meet_second
    | .Machine_meet_default => f_Machine_meet_default
    | .Machine_meet_constructor => f_Machine_meet_constructor
    | .run_code => f_run_code
    | .l_draws => f_l_draws
    | .l_next => f_l_next
    | .l_number => f_l_number
    | .l_term => f_l_term
    | .l_result => f_l_result
    | .law => fl
    ), (fun
    | .frame_words => 0
    | .now_words => 0
    | .cell_words => 0
    | .roots => 0
    | .resolved => 0
    | .Renumbering_init => 0
    | .Renumbering_meet => 0
    | .Renumbering_word => 0
    | .Renumbering_words => 0
    | .Renumbering_cell => 0
    | .Renumbering_frame => 0
    | .Renumbering_now => 0
    | .collect_cells => 0
    | .size_of => 0
    | .Heap_init => 0
    | .Heap_make => 0
    | .Heap_cell => 0
    | .Heap_put => 0
    | .Heap_addresses => 0
    | .Heap_cells => 0
    | .Heap_fits => 0
    | .Heap_renew => 0
    | .operand_word => 0
    | .operand_words => 0
    | .delayed_size => 0
    | .body_size => 0
    | .arithmetic => 0
    | .compared => 0
    | .chosen_case => 0
    | .chosen_pick => 0
    | .Machine_init => 0
    | .Machine_stopped => p_Machine_stopped
    | .Machine_collect => 0
    | .Machine_has_room => 0
    | .Machine_step => 0
    | .Machine_enter => 0
    | .Machine_make => 0
    | .Machine_make_members => 0
    | .Machine_evaluate => 0
    | .Machine_part_of => 0
    | .Machine_meeting_size => 0
    | .Machine_fault => 0
    | .Machine_meet => 0
    | .Machine_apply => 0
    | .Machine_meet_number => 0
    | .Machine_meet_second => 0
    | .Machine_meet_default => 0
    | .Machine_meet_constructor => 0
    | .run_code => 0
    | .l_draws => 0
    | .l_next => 0
    | .l_number => 0
    | .l_term => 0
    | .l_result => 0
    | .law => 0
    ), (fun
    | .frame_words => PySem.W.fnOf "law" "law" (defArgs s_law) (defBody s_law) (defScope s_law) .none kV_law dc_law pm_law an_law cd_law ct_law
    | .now_words => PySem.W.fnOf "law" "law" (defArgs s_law) (defBody s_law) (defScope s_law) .none kV_law dc_law pm_law an_law cd_law ct_law
    | .cell_words => PySem.W.fnOf "law" "law" (defArgs s_law) (defBody s_law) (defScope s_law) .none kV_law dc_law pm_law an_law cd_law ct_law
    | .roots => PySem.W.fnOf "law" "law" (defArgs s_law) (defBody s_law) (defScope s_law) .none kV_law dc_law pm_law an_law cd_law ct_law
    | .resolved => PySem.W.fnOf "law" "law" (defArgs s_law) (defBody s_law) (defScope s_law) .none kV_law dc_law pm_law an_law cd_law ct_law
    | .Renumbering_init => PySem.W.fnOf "law" "law" (defArgs s_law) (defBody s_law) (defScope s_law) .none kV_law dc_law pm_law an_law cd_law ct_law
    | .Renumbering_meet => PySem.W.fnOf "law" "law" (defArgs s_law) (defBody s_law) (defScope s_law) .none kV_law dc_law pm_law an_law cd_law ct_law
    | .Renumbering_word => PySem.W.fnOf "law" "law" (defArgs s_law) (defBody s_law) (defScope s_law) .none kV_law dc_law pm_law an_law cd_law ct_law
    | .Renumbering_words => PySem.W.fnOf "law" "law" (defArgs s_law) (defBody s_law) (defScope s_law) .none kV_law dc_law pm_law an_law cd_law ct_law
    | .Renumbering_cell => PySem.W.fnOf "law" "law" (defArgs s_law) (defBody s_law) (defScope s_law) .none kV_law dc_law pm_law an_law cd_law ct_law
    | .Renumbering_frame => PySem.W.fnOf "law" "law" (defArgs s_law) (defBody s_law) (defScope s_law) .none kV_law dc_law pm_law an_law cd_law ct_law
    | .Renumbering_now => PySem.W.fnOf "law" "law" (defArgs s_law) (defBody s_law) (defScope s_law) .none kV_law dc_law pm_law an_law cd_law ct_law
    | .collect_cells => PySem.W.fnOf "law" "law" (defArgs s_law) (defBody s_law) (defScope s_law) .none kV_law dc_law pm_law an_law cd_law ct_law
    | .size_of => PySem.W.fnOf "size_of" "size_of" (defArgs s_size_of) (defBody s_size_of) (defScope s_size_of) .none kV_size_of dc_size_of pm_size_of an_size_of cd_size_of ct_size_of
    | .Heap_init => PySem.W.fnOf "__init__" "Heap.__init__" (defArgs s_Heap_init) (defBody s_Heap_init) (defScope s_Heap_init) .none kV_Heap_init dc_Heap_init pm_Heap_init an_Heap_init cd_Heap_init ct_Heap_init
    | .Heap_make => PySem.W.fnOf "make" "Heap.make" (defArgs s_Heap_make) (defBody s_Heap_make) (defScope s_Heap_make) .none kV_Heap_make dc_Heap_make pm_Heap_make an_Heap_make cd_Heap_make ct_Heap_make
    | .Heap_cell => PySem.W.fnOf "cell" "Heap.cell" (defArgs s_Heap_cell) (defBody s_Heap_cell) (defScope s_Heap_cell) .none kV_Heap_cell dc_Heap_cell pm_Heap_cell an_Heap_cell cd_Heap_cell ct_Heap_cell
    | .Heap_put => PySem.W.fnOf "put" "Heap.put" (defArgs s_Heap_put) (defBody s_Heap_put) (defScope s_Heap_put) .none kV_Heap_put dc_Heap_put pm_Heap_put an_Heap_put cd_Heap_put ct_Heap_put
    | .Heap_addresses => PySem.W.fnOf "law" "law" (defArgs s_law) (defBody s_law) (defScope s_law) .none kV_law dc_law pm_law an_law cd_law ct_law
    | .Heap_cells => PySem.W.fnOf "law" "law" (defArgs s_law) (defBody s_law) (defScope s_law) .none kV_law dc_law pm_law an_law cd_law ct_law
    | .Heap_fits => PySem.W.fnOf "fits" "Heap.fits" (defArgs s_Heap_fits) (defBody s_Heap_fits) (defScope s_Heap_fits) .none kV_Heap_fits dc_Heap_fits pm_Heap_fits an_Heap_fits cd_Heap_fits ct_Heap_fits
    | .Heap_renew => PySem.W.fnOf "law" "law" (defArgs s_law) (defBody s_law) (defScope s_law) .none kV_law dc_law pm_law an_law cd_law ct_law
    | .operand_word => PySem.W.fnOf "operand_word" "operand_word" (defArgs s_operand_word) (defBody s_operand_word) (defScope s_operand_word) .none kV_operand_word dc_operand_word pm_operand_word an_operand_word cd_operand_word ct_operand_word
    | .operand_words => PySem.W.fnOf "operand_words" "operand_words" (defArgs s_operand_words) (defBody s_operand_words) (defScope s_operand_words) .none kV_operand_words dc_operand_words pm_operand_words an_operand_words cd_operand_words ct_operand_words
    | .delayed_size => PySem.W.fnOf "delayed_size" "delayed_size" (defArgs s_delayed_size) (defBody s_delayed_size) (defScope s_delayed_size) .none kV_delayed_size dc_delayed_size pm_delayed_size an_delayed_size cd_delayed_size ct_delayed_size
    | .body_size => PySem.W.fnOf "body_size" "body_size" (defArgs s_body_size) (defBody s_body_size) (defScope s_body_size) .none kV_body_size dc_body_size pm_body_size an_body_size cd_body_size ct_body_size
    | .arithmetic => PySem.W.fnOf "arithmetic" "arithmetic" (defArgs s_arithmetic) (defBody s_arithmetic) (defScope s_arithmetic) .none kV_arithmetic dc_arithmetic pm_arithmetic an_arithmetic cd_arithmetic ct_arithmetic
    | .compared => PySem.W.fnOf "compared" "compared" (defArgs s_compared) (defBody s_compared) (defScope s_compared) .none kV_compared dc_compared pm_compared an_compared cd_compared ct_compared
    | .chosen_case => PySem.W.fnOf "chosen_case" "chosen_case" (defArgs s_chosen_case) (defBody s_chosen_case) (defScope s_chosen_case) .none kV_chosen_case dc_chosen_case pm_chosen_case an_chosen_case cd_chosen_case ct_chosen_case
    | .chosen_pick => PySem.W.fnOf "chosen_pick" "chosen_pick" (defArgs s_chosen_pick) (defBody s_chosen_pick) (defScope s_chosen_pick) .none kV_chosen_pick dc_chosen_pick pm_chosen_pick an_chosen_pick cd_chosen_pick ct_chosen_pick
    | .Machine_init => PySem.W.fnOf "__init__" "Machine.__init__" (defArgs s_Machine_init) (defBody s_Machine_init) (defScope s_Machine_init) .none kV_Machine_init dc_Machine_init pm_Machine_init an_Machine_init cd_Machine_init ct_Machine_init
    | .Machine_stopped => PySem.W.fnOf "stopped" "Machine.stopped" (defArgs s_Machine_stopped) (defBody s_Machine_stopped) (defScope s_Machine_stopped) .none kV_Machine_stopped dc_Machine_stopped pm_Machine_stopped an_Machine_stopped cd_Machine_stopped ct_Machine_stopped
    | .Machine_collect => PySem.W.fnOf "collect" "Machine.collect" (defArgs s_Machine_collect) (defBody s_Machine_collect) (defScope s_Machine_collect) .none kV_Machine_collect dc_Machine_collect pm_Machine_collect an_Machine_collect cd_Machine_collect ct_Machine_collect
    | .Machine_has_room => PySem.W.fnOf "has_room" "Machine.has_room" (defArgs s_Machine_has_room) (defBody s_Machine_has_room) (defScope s_Machine_has_room) .none kV_Machine_has_room dc_Machine_has_room pm_Machine_has_room an_Machine_has_room cd_Machine_has_room ct_Machine_has_room
    | .Machine_step => PySem.W.fnOf "step" "Machine.step" (defArgs s_Machine_step) (defBody s_Machine_step) (defScope s_Machine_step) .none kV_Machine_step dc_Machine_step pm_Machine_step an_Machine_step cd_Machine_step ct_Machine_step
    | .Machine_enter => PySem.W.fnOf "enter" "Machine.enter" (defArgs s_Machine_enter) (defBody s_Machine_enter) (defScope s_Machine_enter) .none kV_Machine_enter dc_Machine_enter pm_Machine_enter an_Machine_enter cd_Machine_enter ct_Machine_enter
    | .Machine_make => PySem.W.fnOf "make" "Machine.make" (defArgs s_Machine_make) (defBody s_Machine_make) (defScope s_Machine_make) .none kV_Machine_make dc_Machine_make pm_Machine_make an_Machine_make cd_Machine_make ct_Machine_make
    | .Machine_make_members => PySem.W.fnOf "make_members" "Machine.make_members" (defArgs s_Machine_make_members) (defBody s_Machine_make_members) (defScope s_Machine_make_members) .none kV_Machine_make_members dc_Machine_make_members pm_Machine_make_members an_Machine_make_members cd_Machine_make_members ct_Machine_make_members
    | .Machine_evaluate => PySem.W.fnOf "evaluate" "Machine.evaluate" (defArgs s_Machine_evaluate) (defBody s_Machine_evaluate) (defScope s_Machine_evaluate) .none kV_Machine_evaluate dc_Machine_evaluate pm_Machine_evaluate an_Machine_evaluate cd_Machine_evaluate ct_Machine_evaluate
    | .Machine_part_of => PySem.W.fnOf "part_of" "Machine.part_of" (defArgs s_Machine_part_of) (defBody s_Machine_part_of) (defScope s_Machine_part_of) .none kV_Machine_part_of dc_Machine_part_of pm_Machine_part_of an_Machine_part_of cd_Machine_part_of ct_Machine_part_of
    | .Machine_meeting_size => PySem.W.fnOf "meeting_size" "Machine.meeting_size" (defArgs s_Machine_meeting_size) (defBody s_Machine_meeting_size) (defScope s_Machine_meeting_size) .none kV_Machine_meeting_size dc_Machine_meeting_size pm_Machine_meeting_size an_Machine_meeting_size cd_Machine_meeting_size ct_Machine_meeting_size
    | .Machine_fault => PySem.W.fnOf "fault" "Machine.fault" (defArgs s_Machine_fault) (defBody s_Machine_fault) (defScope s_Machine_fault) .none kV_Machine_fault dc_Machine_fault pm_Machine_fault an_Machine_fault cd_Machine_fault ct_Machine_fault
    | .Machine_meet => PySem.W.fnOf "meet" "Machine.meet" (defArgs s_Machine_meet) (defBody s_Machine_meet) (defScope s_Machine_meet) .none kV_Machine_meet dc_Machine_meet pm_Machine_meet an_Machine_meet cd_Machine_meet ct_Machine_meet
    | .Machine_apply => PySem.W.fnOf "apply" "Machine.apply" (defArgs s_Machine_apply) (defBody s_Machine_apply) (defScope s_Machine_apply) .none kV_Machine_apply dc_Machine_apply pm_Machine_apply an_Machine_apply cd_Machine_apply ct_Machine_apply
    | .Machine_meet_number => PySem.W.fnOf "meet_number" "Machine.meet_number" (defArgs s_Machine_meet_number) (defBody s_Machine_meet_number) (defScope s_Machine_meet_number) .none kV_Machine_meet_number dc_Machine_meet_number pm_Machine_meet_number an_Machine_meet_number cd_Machine_meet_number ct_Machine_meet_number
    | .Machine_meet_second => PySem.W.fnOf "meet_second" "Machine.meet_second" (defArgs s_Machine_meet_second) (defBody s_Machine_meet_second) (defScope s_Machine_meet_second) .none kV_Machine_meet_second dc_Machine_meet_second pm_Machine_meet_second an_Machine_meet_second cd_Machine_meet_second ct_Machine_meet_second
    | .Machine_meet_default => PySem.W.fnOf "meet_default" "Machine.meet_default" (defArgs s_Machine_meet_default) (defBody s_Machine_meet_default) (defScope s_Machine_meet_default) .none kV_Machine_meet_default dc_Machine_meet_default pm_Machine_meet_default an_Machine_meet_default cd_Machine_meet_default ct_Machine_meet_default
    | .Machine_meet_constructor => PySem.W.fnOf "meet_constructor" "Machine.meet_constructor" (defArgs s_Machine_meet_constructor) (defBody s_Machine_meet_constructor) (defScope s_Machine_meet_constructor) .none kV_Machine_meet_constructor dc_Machine_meet_constructor pm_Machine_meet_constructor an_Machine_meet_constructor cd_Machine_meet_constructor ct_Machine_meet_constructor
    | .run_code => PySem.W.fnOf "run_code" "run_code" (defArgs s_run_code) (defBody s_run_code) (defScope s_run_code) .none kV_run_code dc_run_code pm_run_code an_run_code cd_run_code ct_run_code
    | .l_draws => PySem.W.fnOf "_law_draws" "_law_draws" (defArgs s_l_draws) (defBody s_l_draws) (defScope s_l_draws) .none kV_l_draws dc_l_draws pm_l_draws an_l_draws cd_l_draws ct_l_draws
    | .l_next => PySem.W.fnOf "_law_next" "_law_next" (defArgs s_l_next) (defBody s_l_next) (defScope s_l_next) .none kV_l_next dc_l_next pm_l_next an_l_next cd_l_next ct_l_next
    | .l_number => PySem.W.fnOf "_law_number" "_law_number" (defArgs s_l_number) (defBody s_l_number) (defScope s_l_number) .none kV_l_number dc_l_number pm_l_number an_l_number cd_l_number ct_l_number
    | .l_term => PySem.W.fnOf "_law_term" "_law_term" (defArgs s_l_term) (defBody s_l_term) (defScope s_l_term) .none kV_l_term dc_l_term pm_l_term an_l_term cd_l_term ct_l_term
    | .l_result => PySem.W.fnOf "_law_result" "_law_result" (defArgs s_l_result) (defBody s_l_result) (defScope s_l_result) .none kV_l_result dc_l_result pm_l_result an_l_result cd_l_result ct_l_result
    | .law => PySem.W.fnOf "law" "law" (defArgs s_law) (defBody s_law) (defScope s_law) .none kV_law dc_law pm_law an_law cd_law ct_law
    ), ?_, rfl, fun s u => .of_eq rfl⟩
  exact {
    f_size_of := fun_mk (st := s_size_of) l_size_of c_size_of k_size_of
    b_size_of := Fun.binds (st := s_size_of) (fun_mk (st := s_size_of) l_size_of c_size_of k_size_of) (ps := ["cell"]) fun _ _ _ _ _ _ us hl => match us, hl with | [_], _ => rfl
    g_size_of := PySem.W.mg_of X G a_size_of
    f_Heap_init := fun_mk (st := s_Heap_init) l_Heap_init c_Heap_init k_Heap_init
    b_Heap_init := Fun.binds (st := s_Heap_init) (fun_mk (st := s_Heap_init) l_Heap_init c_Heap_init k_Heap_init) (ps := ["self", "room"]) fun _ _ _ _ _ _ us hl => match us, hl with | [_, _], _ => rfl
    f_Heap_make := fun_mk (st := s_Heap_make) l_Heap_make c_Heap_make k_Heap_make
    b_Heap_make := Fun.binds (st := s_Heap_make) (fun_mk (st := s_Heap_make) l_Heap_make c_Heap_make k_Heap_make) (ps := ["self", "cell"]) fun _ _ _ _ _ _ us hl => match us, hl with | [_, _], _ => rfl
    m_Heap_make := ⟨a_Heap_make, i_Heap_make, k_Heap_make⟩
    f_Heap_cell := fun_mk (st := s_Heap_cell) l_Heap_cell c_Heap_cell k_Heap_cell
    b_Heap_cell := Fun.binds (st := s_Heap_cell) (fun_mk (st := s_Heap_cell) l_Heap_cell c_Heap_cell k_Heap_cell) (ps := ["self", "address"]) fun _ _ _ _ _ _ us hl => match us, hl with | [_, _], _ => rfl
    m_Heap_cell := ⟨a_Heap_cell, i_Heap_cell, k_Heap_cell⟩
    f_Heap_put := fun_mk (st := s_Heap_put) l_Heap_put c_Heap_put k_Heap_put
    b_Heap_put := Fun.binds (st := s_Heap_put) (fun_mk (st := s_Heap_put) l_Heap_put c_Heap_put k_Heap_put) (ps := ["self", "address", "cell"]) fun _ _ _ _ _ _ us hl => match us, hl with | [_, _, _], _ => rfl
    m_Heap_put := ⟨a_Heap_put, i_Heap_put, k_Heap_put⟩
    f_Heap_fits := fun_mk (st := s_Heap_fits) l_Heap_fits c_Heap_fits k_Heap_fits
    b_Heap_fits := Fun.binds (st := s_Heap_fits) (fun_mk (st := s_Heap_fits) l_Heap_fits c_Heap_fits k_Heap_fits) (ps := ["self", "size"]) fun _ _ _ _ _ _ us hl => match us, hl with | [_, _], _ => rfl
    m_Heap_fits := ⟨a_Heap_fits, i_Heap_fits, k_Heap_fits⟩
    f_operand_word := fun_mk (st := s_operand_word) l_operand_word c_operand_word k_operand_word
    b_operand_word := Fun.binds (st := s_operand_word) (fun_mk (st := s_operand_word) l_operand_word c_operand_word k_operand_word) (ps := ["operand", "words"]) fun _ _ _ _ _ _ us hl => match us, hl with | [_, _], _ => rfl
    g_operand_word := PySem.W.mg_of X G a_operand_word
    f_operand_words := fun_mk (st := s_operand_words) l_operand_words c_operand_words k_operand_words
    b_operand_words := Fun.binds (st := s_operand_words) (fun_mk (st := s_operand_words) l_operand_words c_operand_words k_operand_words) (ps := ["operands", "words"]) fun _ _ _ _ _ _ us hl => match us, hl with | [_, _], _ => rfl
    g_operand_words := PySem.W.mg_of X G a_operand_words
    f_delayed_size := fun_mk (st := s_delayed_size) l_delayed_size c_delayed_size k_delayed_size
    b_delayed_size := Fun.binds (st := s_delayed_size) (fun_mk (st := s_delayed_size) l_delayed_size c_delayed_size k_delayed_size) (ps := ["delayed"]) fun _ _ _ _ _ _ us hl => match us, hl with | [_], _ => rfl
    g_delayed_size := PySem.W.mg_of X G a_delayed_size
    f_body_size := fun_mk (st := s_body_size) l_body_size c_body_size k_body_size
    b_body_size := Fun.binds (st := s_body_size) (fun_mk (st := s_body_size) l_body_size c_body_size k_body_size) (ps := ["body"]) fun _ _ _ _ _ _ us hl => match us, hl with | [_], _ => rfl
    g_body_size := PySem.W.mg_of X G a_body_size
    f_arithmetic := fun_mk (st := s_arithmetic) l_arithmetic c_arithmetic k_arithmetic
    b_arithmetic := Fun.binds (st := s_arithmetic) (fun_mk (st := s_arithmetic) l_arithmetic c_arithmetic k_arithmetic) (ps := ["sign", "left", "right"]) fun _ _ _ _ _ _ us hl => match us, hl with | [_, _, _], _ => rfl
    g_arithmetic := PySem.W.mg_of X G a_arithmetic
    f_compared := fun_mk (st := s_compared) l_compared c_compared k_compared
    b_compared := Fun.binds (st := s_compared) (fun_mk (st := s_compared) l_compared c_compared k_compared) (ps := ["sign", "left", "right"]) fun _ _ _ _ _ _ us hl => match us, hl with | [_, _, _], _ => rfl
    g_compared := PySem.W.mg_of X G a_compared
    f_chosen_case := fun_mk (st := s_chosen_case) l_chosen_case c_chosen_case k_chosen_case
    b_chosen_case := Fun.binds (st := s_chosen_case) (fun_mk (st := s_chosen_case) l_chosen_case c_chosen_case k_chosen_case) (ps := ["cell", "alternatives"]) fun _ _ _ _ _ _ us hl => match us, hl with | [_, _], _ => rfl
    g_chosen_case := PySem.W.mg_of X G a_chosen_case
    f_chosen_pick := fun_mk (st := s_chosen_pick) l_chosen_pick c_chosen_pick k_chosen_pick
    b_chosen_pick := Fun.binds (st := s_chosen_pick) (fun_mk (st := s_chosen_pick) l_chosen_pick c_chosen_pick k_chosen_pick) (ps := ["number", "alternatives"]) fun _ _ _ _ _ _ us hl => match us, hl with | [_, _], _ => rfl
    g_chosen_pick := PySem.W.mg_of X G a_chosen_pick
    f_Machine_init := fun_mk (st := s_Machine_init) l_Machine_init c_Machine_init k_Machine_init
    b_Machine_init := Fun.binds (st := s_Machine_init) (fun_mk (st := s_Machine_init) l_Machine_init c_Machine_init k_Machine_init) (ps := ["self", "program", "room"]) fun _ _ _ _ _ _ us hl => match us, hl with | [_, _, _], _ => rfl
    f_Machine_stopped := fun_mk (st := s_Machine_stopped) l_Machine_stopped c_Machine_stopped k_Machine_stopped
    b_Machine_stopped := Fun.binds (st := s_Machine_stopped) (fun_mk (st := s_Machine_stopped) l_Machine_stopped c_Machine_stopped k_Machine_stopped) (ps := ["self"]) fun _ _ _ _ _ _ us hl => match us, hl with | [_], _ => rfl
    p_Machine_stopped := ⟨a_Machine_stopped, x_Machine_stopped, y_Machine_stopped, ⟨_, z_Machine_stopped⟩⟩
    f_Machine_collect := fun_mk (st := s_Machine_collect) l_Machine_collect c_Machine_collect k_Machine_collect
    b_Machine_collect := Fun.binds (st := s_Machine_collect) (fun_mk (st := s_Machine_collect) l_Machine_collect c_Machine_collect k_Machine_collect) (ps := ["self"]) fun _ _ _ _ _ _ us hl => match us, hl with | [_], _ => rfl
    m_Machine_collect := ⟨a_Machine_collect, i_Machine_collect, k_Machine_collect⟩
    f_Machine_has_room := fun_mk (st := s_Machine_has_room) l_Machine_has_room c_Machine_has_room k_Machine_has_room
    b_Machine_has_room := Fun.binds (st := s_Machine_has_room) (fun_mk (st := s_Machine_has_room) l_Machine_has_room c_Machine_has_room k_Machine_has_room) (ps := ["self", "size"]) fun _ _ _ _ _ _ us hl => match us, hl with | [_, _], _ => rfl
    m_Machine_has_room := ⟨a_Machine_has_room, i_Machine_has_room, k_Machine_has_room⟩
    f_Machine_step := fun_mk (st := s_Machine_step) l_Machine_step c_Machine_step k_Machine_step
    b_Machine_step := Fun.binds (st := s_Machine_step) (fun_mk (st := s_Machine_step) l_Machine_step c_Machine_step k_Machine_step) (ps := ["self"]) fun _ _ _ _ _ _ us hl => match us, hl with | [_], _ => rfl
    m_Machine_step := ⟨a_Machine_step, i_Machine_step, k_Machine_step⟩
    f_Machine_enter := fun_mk (st := s_Machine_enter) l_Machine_enter c_Machine_enter k_Machine_enter
    b_Machine_enter := Fun.binds (st := s_Machine_enter) (fun_mk (st := s_Machine_enter) l_Machine_enter c_Machine_enter k_Machine_enter) (ps := ["self", "word"]) fun _ _ _ _ _ _ us hl => match us, hl with | [_, _], _ => rfl
    m_Machine_enter := ⟨a_Machine_enter, i_Machine_enter, k_Machine_enter⟩
    f_Machine_make := fun_mk (st := s_Machine_make) l_Machine_make c_Machine_make k_Machine_make
    b_Machine_make := Fun.binds (st := s_Machine_make) (fun_mk (st := s_Machine_make) l_Machine_make c_Machine_make k_Machine_make) (ps := ["self", "cell"]) fun _ _ _ _ _ _ us hl => match us, hl with | [_, _], _ => rfl
    m_Machine_make := ⟨a_Machine_make, i_Machine_make, k_Machine_make⟩
    f_Machine_make_members := fun_mk (st := s_Machine_make_members) l_Machine_make_members c_Machine_make_members k_Machine_make_members
    b_Machine_make_members := Fun.binds (st := s_Machine_make_members) (fun_mk (st := s_Machine_make_members) l_Machine_make_members c_Machine_make_members k_Machine_make_members) (ps := ["self", "members", "words"]) fun _ _ _ _ _ _ us hl => match us, hl with | [_, _, _], _ => rfl
    m_Machine_make_members := ⟨a_Machine_make_members, i_Machine_make_members, k_Machine_make_members⟩
    f_Machine_evaluate := fun_mk (st := s_Machine_evaluate) l_Machine_evaluate c_Machine_evaluate k_Machine_evaluate
    b_Machine_evaluate := Fun.binds (st := s_Machine_evaluate) (fun_mk (st := s_Machine_evaluate) l_Machine_evaluate c_Machine_evaluate k_Machine_evaluate) (ps := ["self", "body", "words"]) fun _ _ _ _ _ _ us hl => match us, hl with | [_, _, _], _ => rfl
    m_Machine_evaluate := ⟨a_Machine_evaluate, i_Machine_evaluate, k_Machine_evaluate⟩
    f_Machine_part_of := fun_mk (st := s_Machine_part_of) l_Machine_part_of c_Machine_part_of k_Machine_part_of
    b_Machine_part_of := Fun.binds (st := s_Machine_part_of) (fun_mk (st := s_Machine_part_of) l_Machine_part_of c_Machine_part_of k_Machine_part_of) (ps := ["self", "word"]) fun _ _ _ _ _ _ us hl => match us, hl with | [_, _], _ => rfl
    m_Machine_part_of := ⟨a_Machine_part_of, i_Machine_part_of, k_Machine_part_of⟩
    f_Machine_meeting_size := fun_mk (st := s_Machine_meeting_size) l_Machine_meeting_size c_Machine_meeting_size k_Machine_meeting_size
    b_Machine_meeting_size := Fun.binds (st := s_Machine_meeting_size) (fun_mk (st := s_Machine_meeting_size) l_Machine_meeting_size c_Machine_meeting_size k_Machine_meeting_size) (ps := ["self"]) fun _ _ _ _ _ _ us hl => match us, hl with | [_], _ => rfl
    m_Machine_meeting_size := ⟨a_Machine_meeting_size, i_Machine_meeting_size, k_Machine_meeting_size⟩
    f_Machine_fault := fun_mk (st := s_Machine_fault) l_Machine_fault c_Machine_fault k_Machine_fault
    b_Machine_fault := Fun.binds (st := s_Machine_fault) (fun_mk (st := s_Machine_fault) l_Machine_fault c_Machine_fault k_Machine_fault) (ps := ["self", "text"]) fun _ _ _ _ _ _ us hl => match us, hl with | [_, _], _ => rfl
    m_Machine_fault := ⟨a_Machine_fault, i_Machine_fault, k_Machine_fault⟩
    f_Machine_meet := fun_mk (st := s_Machine_meet) l_Machine_meet c_Machine_meet k_Machine_meet
    b_Machine_meet := Fun.binds (st := s_Machine_meet) (fun_mk (st := s_Machine_meet) l_Machine_meet c_Machine_meet k_Machine_meet) (ps := ["self", "word", "frame"]) fun _ _ _ _ _ _ us hl => match us, hl with | [_, _, _], _ => rfl
    m_Machine_meet := ⟨a_Machine_meet, i_Machine_meet, k_Machine_meet⟩
    f_Machine_apply := fun_mk (st := s_Machine_apply) l_Machine_apply c_Machine_apply k_Machine_apply
    b_Machine_apply := Fun.binds (st := s_Machine_apply) (fun_mk (st := s_Machine_apply) l_Machine_apply c_Machine_apply k_Machine_apply) (ps := ["self", "word", "args"]) fun _ _ _ _ _ _ us hl => match us, hl with | [_, _, _], _ => rfl
    m_Machine_apply := ⟨a_Machine_apply, i_Machine_apply, k_Machine_apply⟩
    f_Machine_meet_number := fun_mk (st := s_Machine_meet_number) l_Machine_meet_number c_Machine_meet_number k_Machine_meet_number
    b_Machine_meet_number := Fun.binds (st := s_Machine_meet_number) (fun_mk (st := s_Machine_meet_number) l_Machine_meet_number c_Machine_meet_number k_Machine_meet_number) (ps := ["self", "number", "frame"]) fun _ _ _ _ _ _ us hl => match us, hl with | [_, _, _], _ => rfl
    m_Machine_meet_number := ⟨a_Machine_meet_number, i_Machine_meet_number, k_Machine_meet_number⟩
    f_Machine_meet_second := fun_mk (st := s_Machine_meet_second) l_Machine_meet_second c_Machine_meet_second k_Machine_meet_second
    b_Machine_meet_second := Fun.binds (st := s_Machine_meet_second) (fun_mk (st := s_Machine_meet_second) l_Machine_meet_second c_Machine_meet_second k_Machine_meet_second) (ps := ["self", "sign", "left", "right"]) fun _ _ _ _ _ _ us hl => match us, hl with | [_, _, _, _], _ => rfl
    m_Machine_meet_second := ⟨a_Machine_meet_second, i_Machine_meet_second, k_Machine_meet_second⟩
    f_Machine_meet_default := fun_mk (st := s_Machine_meet_default) l_Machine_meet_default c_Machine_meet_default k_Machine_meet_default
    b_Machine_meet_default := Fun.binds (st := s_Machine_meet_default) (fun_mk (st := s_Machine_meet_default) l_Machine_meet_default c_Machine_meet_default k_Machine_meet_default) (ps := ["self", "word", "frame"]) fun _ _ _ _ _ _ us hl => match us, hl with | [_, _, _], _ => rfl
    m_Machine_meet_default := ⟨a_Machine_meet_default, i_Machine_meet_default, k_Machine_meet_default⟩
    f_Machine_meet_constructor := fun_mk (st := s_Machine_meet_constructor) l_Machine_meet_constructor c_Machine_meet_constructor k_Machine_meet_constructor
    b_Machine_meet_constructor := Fun.binds (st := s_Machine_meet_constructor) (fun_mk (st := s_Machine_meet_constructor) l_Machine_meet_constructor c_Machine_meet_constructor k_Machine_meet_constructor) (ps := ["self", "word", "cell", "frame"]) fun _ _ _ _ _ _ us hl => match us, hl with | [_, _, _, _], _ => rfl
    m_Machine_meet_constructor := ⟨a_Machine_meet_constructor, i_Machine_meet_constructor, k_Machine_meet_constructor⟩
    f_run_code := fun_mk (st := s_run_code) l_run_code c_run_code k_run_code
    b_run_code := Fun.binds (st := s_run_code) (fun_mk (st := s_run_code) l_run_code c_run_code k_run_code) (ps := ["program", "room", "schedule", "steps"]) fun _ _ _ _ _ _ us hl => match us, hl with | [_, _, _, _], _ => rfl
    g_run_code := PySem.W.mg_of X G a_run_code
    f_l_draws := fun_mk (st := s_l_draws) l_l_draws c_l_draws k_l_draws
    b_l_draws := Fun.binds (st := s_l_draws) (fun_mk (st := s_l_draws) l_l_draws c_l_draws k_l_draws) (ps := ["_law_script", "_law_many"]) fun _ _ _ _ _ _ us hl => match us, hl with | [_, _], _ => rfl
    g_l_draws := PySem.W.mg_of X G a_l_draws
    f_l_next := fun_mk (st := s_l_next) l_l_next c_l_next k_l_next
    b_l_next := Fun.binds (st := s_l_next) (fun_mk (st := s_l_next) l_l_next c_l_next k_l_next) (ps := ["_law_w", "_law_many"]) fun _ _ _ _ _ _ us hl => match us, hl with | [_, _], _ => rfl
    g_l_next := PySem.W.mg_of X G a_l_next
    f_l_number := fun_mk (st := s_l_number) l_l_number c_l_number k_l_number
    b_l_number := Fun.binds (st := s_l_number) (fun_mk (st := s_l_number) l_l_number c_l_number k_l_number) (ps := ["_law_w"]) fun _ _ _ _ _ _ us hl => match us, hl with | [_], _ => rfl
    g_l_number := PySem.W.mg_of X G a_l_number
    f_l_term := fun_mk (st := s_l_term) l_l_term c_l_term k_l_term
    b_l_term := Fun.binds (st := s_l_term) (fun_mk (st := s_l_term) l_l_term c_l_term k_l_term) (ps := ["_law_sign", "_law_left", "_law_right"]) fun _ _ _ _ _ _ us hl => match us, hl with | [_, _, _], _ => rfl
    g_l_term := PySem.W.mg_of X G a_l_term
    f_l_result := fun_mk (st := s_l_result) l_l_result c_l_result k_l_result
    b_l_result := Fun.binds (st := s_l_result) (fun_mk (st := s_l_result) l_l_result c_l_result k_l_result) (ps := ["_law_sign", "_law_left", "_law_right"]) fun _ _ _ _ _ _ us hl => match us, hl with | [_, _, _], _ => rfl
    g_l_result := PySem.W.mg_of X G a_l_result
    f_law := fun_mk (st := s_law) l_law c_law k_law
    b_law := Fun.binds (st := s_law) (fun_mk (st := s_law) l_law c_law k_law) (ps := ["_law_script"]) fun _ _ _ _ _ _ us hl => match us, hl with | [_], _ => rfl
    g_law := PySem.W.mg_of X G a_law
    c_Heap := ⟨pg_Heap, hd_Heap, po_Heap, sa_Heap⟩
    gc_Heap := PySem.W.mg_of X G aC_Heap
    mk_Heap := ⟨mk_Heap, a_Heap_init, i_Heap_init, kc_Heap⟩
    a_Heap__cells := n_Heap__cells
    a_Heap_next_address := n_Heap_next_address
    a_Heap_room := n_Heap_room
    a_Heap_used := n_Heap_used
    c_Machine := ⟨pg_Machine, hd_Machine, po_Machine, sa_Machine⟩
    gc_Machine := PySem.W.mg_of X G aC_Machine
    mk_Machine := ⟨mk_Machine, a_Machine_init, i_Machine_init, kc_Machine⟩
    a_Machine_collections := n_Machine_collections
    a_Machine_entered := n_Machine_entered
    a_Machine_events := n_Machine_events
    a_Machine_functions := n_Machine_functions
    a_Machine_heap := n_Machine_heap
    a_Machine_now := n_Machine_now
    a_Machine_serial := n_Machine_serial
    a_Machine_stack := n_Machine_stack
    n_abs := PySem.W.mg_none_of X G z_abs
    n_enumerate := PySem.W.mg_none_of X G z_enumerate
    n_int := PySem.W.mg_none_of X G z_int
    n_len := PySem.W.mg_none_of X G z_len
    n_max := PySem.W.mg_none_of X G z_max
    n_range := PySem.W.mg_none_of X G z_range
    n_sum := PySem.W.mg_none_of X G z_sum
    n_tuple := PySem.W.mg_none_of X G z_tuple
    k_CONTAINERS := ⟨_, _, _, _, PySem.W.mg_of X G u_CONTAINERS, q_CONTAINERS, rfl, rfl, by rw [sizeLine_eq]; simp, (.cons ⟨_, rfl⟩ (.cons ⟨_, rfl⟩ .nil))⟩
    k_ENDS := ⟨_, _, _, _, PySem.W.mg_of X G u_ENDS, q_ENDS, rfl, rfl, by rw [sizeLine_eq]; simp, (.cons ⟨_, rfl⟩ (.cons ⟨_, rfl⟩ (.cons ⟨_, rfl⟩ (.cons ⟨_, rfl⟩ (.cons ⟨_, rfl⟩ .nil)))))⟩
    k_LARGEST := ⟨_, PySem.W.mg_of X G u_LARGEST, ⟨_, rfl⟩⟩
  }
def spLaw (K : PySem.W.Frag) : Sp := fun vs H Q _ => ∃ (a : Addr) (ns : List Int), vs = [.ref a] ∧ Only H ∧ SqL K H a (ns.map V.int) ∧ ns.length ≤ 63 ∧ ∀ H, Q (.bl true) H
theorem law_ok {P : Program} {w : World} {K : PySem.W.Frag} {mg : Str → Option Value} {base : Heap} {CA : Nat → Addr} {fa pa : Fi → Addr} {fd : Fi → FuncData} {n : Nat} (hm : ∀ ns : List Int, ns.length ≤ 63 → ∃ S, sem n .law [.ro (ns.map D.int)] [] = .ok (.bl true) S) (T : Txt K mg CA fa pa fd) :
    FnOk P w K mg base CX0 n (fa .law) (fd .law) ["_law_script"] (spLaw K) := by
  refine FnOk.imp ((all_ok T n).1 .law) fun vs H Q E h => ?_
  obtain ⟨a, ns, rfl, hO, hS, hl, q⟩ := h
  obtain ⟨S', e⟩ := hm ns hl
  have hR : SqR K H a (ns.map V.int) := by
    rcases hS with (h1 | h1) | h1
    · rcases hO a with z | ⟨o, xs, z⟩
      · rw [z] at h1; cases h1
      · rw [z] at h1; cases h1
    · exact .inl h1
    · exact .inr h1
  refine ⟨fun _ => 0, [], [.ro (ns.map D.int)], .bl true, S', ⟨fun _ _ z => by simp at z, fun _ _ z => by simp at z⟩, .cons (.ro hR (VRs.ints ns)) .nil, rfl, e, fun ι' v H' _ _ r => ?_⟩
  cases r
  exact q _
theorem walk {n : Nat} (hm : ∀ ns : List Int, ns.length ≤ 63 → ∃ S, sem n .law [.ro (ns.map D.int)] [] = .ok (.bl true) S) (hn3 : n ≤ 60) {l : PySem.W.OpenLaw} {q : Program} {loose : List Str} {XP : (Str → Option Value) → Heap → Prop} {YP : World → Heap → Prop} {d : DefRec} {K : Params → PySem.W.Frag} (hn : l.most = some 63) (hdf : d.params.defaults = [])
    (hY : ∀ (w : World) (h : Heap), YP w h → (K w.params).In h)
    (F : ∀ (w : World) (mg : Str → Option Value) (fl : Addr) (h : Heap), (K w.params).In h → h.Ns mainGlobals mg → mg d.name = some (.ref fl) →
      ∃ (CA : Nat → Addr) (fa pa : Fi → Addr) (fd : Fi → FuncData), Txt (K w.params) mg CA fa pa fd ∧ fa .law = fl ∧ ∀ (s : Shared) (u : Value), BindsTo s (fd .law) ⟨[u], []⟩ [("_law_script", u)]) :
    PySem.W.WalkO q loose XP YP l.row.toRowW d [] (fun f vs => PySem.call f vs) := by
  have hroom : Room 60 PySem.callerA := ⟨rfl, by decide, by decide⟩
  refine L2.walk_of (n := 63) (k := n) (x := "_law_script") (CX := fun _ => CX0) (sp := fun w => spLaw (K w.params)) hn (by decide) hdf (hroom.mono hn3) hY (fun w mg fl h KX G hmg => ?_) (fun _ _ a ns hl hO hS => ⟨a, ns, rfl, hO, hS, hl, fun _ => rfl⟩) fun _ _ _ _ _ z => z
  obtain ⟨CA, fa, pa, fd, T, rfl, hb⟩ := F w mg fl h KX G hmg
  exact ⟨fd .law, hb, fun base _ _ => law_ok hm T⟩
end Nk66

local macro_rules
  | `(tactic| simp?! [$ts,*]) => `(tactic| simp only [
  Nd.e_beqS, Nd.e_C, Nd.e_Var, Nd.e_kVar, Nd.e_kOpt, Nd.e_kOptB, Nd.e_kOptBDt, Nd.e_kOptBDf, Nd.e_Op2, Nd.e_Op2a, Nd.e_Op2b, Nd.e_Op1, Nd.e_Nil, Nd.e_Cons, Nd.e_ConsA, Nd.e_ConsB, 
  Nd.e_App, Nd.e_Tup, Nd.e_kTup, Nd.e_Call, Nd.e_Truth, Nd.e_kTruth, Nd.e_Bool, Nd.e_kBool, Nd.e_Not, Nd.e_kNot, Nd.e_And, Nd.e_AndT, Nd.e_AndF, Nd.e_Or, Nd.e_OrT, Nd.e_OrF, 
  Nd.e_AndV, Nd.e_AndVT, Nd.e_AndVF, Nd.e_OrV, Nd.e_OrVT, Nd.e_OrVF, Nd.e_NotV, Nd.e_kNotV, Nd.e_Skip, Nd.e_Brk, Nd.e_Cnt, Nd.e_Seq, Nd.e_SeqN, Nd.e_SeqR, Nd.e_SeqB, Nd.e_SeqC, 
  Nd.e_Set, Nd.e_kSet, Nd.e_Ret, Nd.e_kRet, Nd.e_Expr, Nd.e_kExpr, Nd.e_If, Nd.e_IfT, Nd.e_IfF, Nd.e_run, Nd.e_runN, Nd.e_runR, Nd.e_Lst, Nd.e_kLst, Nd.e_Alloc, Nd.e_kAlloc, 
  Nd.e_AppL, Nd.e_TupL, Nd.e_InL, Nd.e_InLa, Nd.e_InLb, Nd.e_IxL, Nd.e_IxLa, Nd.e_IxLb, Nd.e_ListOf, Nd.e_kListOf, Nd.e_kOptL, Nd.e_NoO, Nd.e_SomeO, Nd.e_kSomeO, Nd.e_Slice, 
  Nd.e_Sl1, Nd.e_Sl2, Nd.e_Sl3, Nd.e_SliceT, Nd.e_Dict0, Nd.e_Dict, Nd.e_kDict, Nd.e_Fld, Nd.e_kFld, Nd.e_SetF, Nd.e_SetFa, Nd.e_SetFb, Nd.e_SetFc, Nd.e_AugF, Nd.e_kAugF, 
  Nd.e_AugFa, Nd.e_AugFb, Nd.e_AugFc, Nd.e_Aug, Nd.e_kAug, Nd.e_kAugb, Nd.e_PutD, Nd.e_PutDa, Nd.e_PutDb, Nd.e_PutDc, Nd.e_PutDd, Nd.e_AugD, Nd.e_AugD1, Nd.e_AugD2, Nd.e_AugDa, 
  Nd.e_AugDb, Nd.e_AugDc, Nd.e_AugDd, Nd.e_insAt, Nd.e_kIns, Nd.e_Meth, Nd.e_MethA, Nd.e_MethB, Nd.e_MethC, Nd.e_MethD, Nd.e_Prop, Nd.e_kProp, Nd.e_PropB, Nd.e_Make, Nd.e_kMake, 
  Nd.e_MakeB, Nd.e_BM, Nd.e_kBM, Nd.e_BMb, Nd.e_BMc, Nd.e_isLst, Nd.e_kIsL, Nd.e_Append, Nd.e_kApp, Nd.e_Pop, Nd.e_kPop, Nd.e_Extend, Nd.e_kExt, Nd.e_Asg, Nd.e_kAsg, Nd.e_Asgb, 
  Nd.e_asgN, Nd.e_asgT, Nd.e_asgs0, Nd.e_asgs, Nd.e_kAsgs, Nd.e_SeqI, Nd.e_SeqIt, Nd.e_SeqIr, Nd.e_SeqIo, Nd.e_SeqIp, Nd.e_SeqL, Nd.e_kSeqL, Nd.e_Range, Nd.e_Enum, Nd.e_kEnum, 
  Nd.e_For, Nd.e_kFor, Nd.e_loop0n, Nd.e_loop1n, Nd.e_kLoop1, Nd.e_loop2n, Nd.e_loop2c, Nd.e_loop2b, Nd.e_loop2r, Nd.e_Lc, Nd.e_kLc, Nd.e_loopC0n, Nd.e_loopC1n, Nd.e_Lc1, Nd.e_Lc2T, 
  Nd.e_Lc2F, Nd.e_Lc3, Nd.e_Dc, Nd.e_kDc, Nd.e_Dc9, Nd.e_loopDc0n, Nd.e_gok0, Nd.e_gok1, Nd.e_Yes, Nd.e_wipe0, Nd.e_wipe1, Nd.e_ok, Nd.e_addI, Nd.e_addT, Nd.e_addL, Nd.e_kAddL, 
  Nd.e_sub, Nd.e_neg, Nd.e_cmp, Nd.e_eq, Nd.e_ne, Nd.e_eqI, Nd.e_eqS, Nd.e_isN, Nd.e_isN0, Nd.e_isN1, Nd.e_isN2, Nd.e_isN3, Nd.e_isN4, Nd.e_isN5, Nd.e_in, Nd.e_inT, Nd.e_inO, 
  Nd.e_inL, Nd.e_inDi, Nd.e_inDs, Nd.e_ix, Nd.e_ixT, Nd.e_ixR, Nd.e_ixO, Nd.e_ixL, Nd.e_ixDi, Nd.e_ixDs, Nd.e_len, Nd.e_kLen, Nd.e_lenT, Nd.e_lenR, Nd.e_lenO, Nd.e_lenL, Nd.e_lenD, 
  Nd.e_intI, Nd.e_intB, Nd.e_abs, Nd.e_max, Nd.e_min, Nd.e_tuple, Nd.e_kTupO, Nd.e_seqT, Nd.e_seqO, Nd.e_seqL, Nd.e_truN, Nd.e_truB, Nd.e_truI, Nd.e_truT, Nd.e_keyI, Nd.e_keyS, 
  Nd.e_getA0, Nd.e_getA1, Nd.e_putA0, Nd.e_putA1, Nd.e_at0, Nd.e_at1, Nd.e_at2, Nd.e_at3, Nd.e_at4, Nd.e_atm, Nd.e_app0, Nd.e_appn, Nd.e_aset0, Nd.e_asetn, Nd.div2, Nd.mod2, 
  Nd.mul2, Nd.range_ok, Nd.ofString_inj, List.getElem?_cons_zero, List.getElem?_cons_succ, List.getElem?_nil, List.set_cons_zero, List.set_cons_succ, List.map_cons, List.map_nil, 
  List.length_cons, List.length_nil, List.cons_append, List.nil_append, List.append_nil, List.replicate_zero, List.replicate_succ, List.all_cons, List.all_nil, List.any_cons, 
  List.any_nil, Nd.flatD, Nd.eqF, Nat.reduceAdd, Nat.reduceSub, Nat.reduceLeDiff, Nat.reduceLT, Nat.reduceGT, Nat.zero_add, Int.reduceNeg, ↓reduceIte, String.reduceEq, decide_true, 
  decide_false, decide_not, Bool.not_true, Bool.not_false, Bool.and_true, Bool.true_and, Bool.and_false, Bool.false_and, Bool.or_true, Bool.true_or, Bool.or_false, Bool.false_or, 
  Bool.false_eq_true, Bool.decide_eq_true, beq_iff_eq, and_self, and_true, true_and, or_true, true_or, false_or, or_false, not_false_eq_true, not_true_eq_false, ne_eq, 
  Int.reduceAdd, Int.reduceSub, Int.reduceMul, Int.reduceLT, Int.reduceLE, Int.reduceEq, Int.reduceNe, Nat.add_zero, Int.cast_ofNat_Int, List.length_set, $ts,*])
namespace Nk66
open PySem L2 Nd
/-- a machine in the store -/
structure Q where
  fns : List D
  room : Int
  used : Int
  next : Int
  cells : List (Key × D)
  serial : Int
  stack : List D
  now : D
  ev : List D
  en : List D
  rest : Store
def mst (A : Store) (q : Q) : Store := A ++ ([.ins 2 [("functions", .tup q.fns), ("heap", .obj (A.length + 1)), ("serial", .int q.serial), ("stack", .obj (A.length + 3)), ("now", q.now), ("events", .obj (A.length + 4)), ("entered", .obj (A.length + 5)), ("collections", .int 0)],
  .ins 1 [("room", .int q.room), ("used", .int q.used), ("next_address", .int q.next), ("_cells", .obj (A.length + 2))], .dct q.cells, .lst q.stack, .lst q.ev, .lst q.en] ++ q.rest)
theorem fd0 {a : Int} : (2 * a).fdiv 2 = a := by rw [Int.fdiv_eq_ediv_of_nonneg _ (by decide)]; omega
theorem fd1 {a : Int} : (2 * a + 1).fdiv 2 = a := by rw [Int.fdiv_eq_ediv_of_nonneg _ (by decide)]; omega
theorem fm0 {a : Int} : (2 * a).fmod 2 = 0 := by rw [Int.fmod_eq_emod_of_nonneg _ (by decide)]; omega
theorem fm1 {a : Int} : (2 * a + 1).fmod 2 = 1 := by rw [Int.fmod_eq_emod_of_nonneg _ (by decide)]; omega
variable {n : Nat} {A S : Store} {q : Q} {a b z w v t ser : Int} {c x body fr frm : D} {ws st fs ms : List D} {v' : D} {tag : D}
theorem x_size_hole : sem (n + 2) .size_of [.tup [.str "hole"]] S = .ok (.int 2) S := by
  rw [sem_size_of]; unfold b_size_of; simp?! []
theorem x_size_on : sem (n + 2) .size_of [.tup [.str "on", x]] S = .ok (.int 2) S := by
  rw [sem_size_of]; unfold b_size_of; simp?! []
theorem x_size_later : sem (n + 2) .size_of [.tup [.str "later", body, .tup fs, x]] S = .ok (.int (if (1 + (fs.length : Int)) > 2 then 1 + fs.length else 2)) S := by
  rw [sem_size_of]; unfold b_size_of; simp?! []
theorem x_size_con : sem (n + 2) .size_of [.tup [.str "con", tag, .tup fs]] S = .ok (.int (1 + fs.length)) S := by
  rw [sem_size_of]; unfold b_size_of; simp?! []
theorem x_size_part : sem (n + 2) .size_of [.tup [.str "part", tag, .tup fs]] S = .ok (.int (1 + fs.length)) S := by
  rw [sem_size_of]; unfold b_size_of; simp?! []
/-! reading and writing the machine -/
def mfs (A : Store) (q : Q) : List (Str × D) := [("functions", .tup q.fns), ("heap", .obj (A.length + 1)), ("serial", .int q.serial), ("stack", .obj (A.length + 3)), ("now", q.now), ("events", .obj (A.length + 4)), ("entered", .obj (A.length + 5)), ("collections", .int 0)]
def hfs (A : Store) (q : Q) : List (Str × D) := [("room", .int q.room), ("used", .int q.used), ("next_address", .int q.next), ("_cells", .obj (A.length + 2))]
theorem m_g0 : (mst A q)[A.length]? = some (.ins 2 (mfs A q)) := by unfold mst mfs; simp?! []
theorem m_g1 : (mst A q)[A.length + 1]? = some (.ins 1 (hfs A q)) := by unfold mst hfs; simp?! []
theorem m_g2 : (mst A q)[A.length + 2]? = some (.dct q.cells) := by unfold mst; simp?! []
theorem m_g3 : (mst A q)[A.length + 3]? = some (.lst q.stack) := by unfold mst; simp?! []
theorem m_g4 : (mst A q)[A.length + 4]? = some (.lst q.ev) := by unfold mst; simp?! []
theorem m_g5 : (mst A q)[A.length + 5]? = some (.lst q.en) := by unfold mst; simp?! []
theorem m_g6 : (mst A q)[A.length + 6]? = q.rest[0]? := by unfold mst; simp?! []
theorem m_now : getA "now" (mfs A q) = some q.now := by unfold mfs; simp?! []
theorem m_fns : getA "functions" (mfs A q) = some (.tup q.fns) := by unfold mfs; simp?! []
theorem m_heap : getA "heap" (mfs A q) = some (.obj (A.length + 1)) := by unfold mfs; simp?! []
theorem m_serial : getA "serial" (mfs A q) = some (.int q.serial) := by unfold mfs; simp?! []
theorem m_stack : getA "stack" (mfs A q) = some (.obj (A.length + 3)) := by unfold mfs; simp?! []
theorem m_events : getA "events" (mfs A q) = some (.obj (A.length + 4)) := by unfold mfs; simp?! []
theorem m_entered : getA "entered" (mfs A q) = some (.obj (A.length + 5)) := by unfold mfs; simp?! []
theorem m_coll : getA "collections" (mfs A q) = some (.int 0) := by unfold mfs; simp?! []
theorem m_used : getA "used" (hfs A q) = some (.int q.used) := by unfold hfs; simp?! []
theorem m_room : getA "room" (hfs A q) = some (.int q.room) := by unfold hfs; simp?! []
theorem m_next : getA "next_address" (hfs A q) = some (.int q.next) := by unfold hfs; simp?! []
theorem m_cells : getA "_cells" (hfs A q) = some (.obj (A.length + 2)) := by unfold hfs; simp?! []
theorem m_len : (mfs A q).length = 8 := rfl
theorem m_lenH : (hfs A q).length = 4 := rfl
theorem m_noA {f : Str} (h : f ≠ "functions" ∧ f ≠ "heap" ∧ f ≠ "serial" ∧ f ≠ "stack" ∧ f ≠ "now" ∧ f ≠ "events" ∧ f ≠ "entered" ∧ f ≠ "collections") : getA f (mfs A q) = none := by
  obtain ⟨h1, h2, h3, h4, h5, h6, h7, h8⟩ := h
  unfold mfs; simp only [e_getA1, e_getA0, h1, h2, h3, h4, h5, h6, h7, h8, if_false]
theorem m_noH {f : Str} (h : f ≠ "room" ∧ f ≠ "used" ∧ f ≠ "next_address" ∧ f ≠ "_cells") : getA f (hfs A q) = none := by
  obtain ⟨h1, h2, h3, h4⟩ := h
  unfold hfs; simp only [e_getA1, e_getA0, h1, h2, h3, h4, if_false]
theorem m_setNow : (mst A q).set A.length (.ins 2 (putA "now" v' (mfs A q))) = mst A { q with now := v' } := by unfold mst mfs; simp?! []
theorem m_setSer {i : Int} : (mst A q).set A.length (.ins 2 (putA "serial" (.int i) (mfs A q))) = mst A { q with serial := i } := by unfold mst mfs; simp?! []
theorem m_setUsed {i : Int} : (mst A q).set (A.length + 1) (.ins 1 (putA "used" (.int i) (hfs A q))) = mst A { q with used := i } := by unfold mst hfs; simp?! []
theorem m_setNext {i : Int} : (mst A q).set (A.length + 1) (.ins 1 (putA "next_address" (.int i) (hfs A q))) = mst A { q with next := i } := by unfold mst hfs; simp?! []
theorem m_set2 {l : List (Key × D)} : (mst A q).set (A.length + 2) (.dct l) = mst A { q with cells := l } := by unfold mst; simp?! []
theorem m_set3 {l : List D} : (mst A q).set (A.length + 3) (.lst l) = mst A { q with stack := l } := by unfold mst; simp?! []
theorem m_set4 {l : List D} : (mst A q).set (A.length + 4) (.lst l) = mst A { q with ev := l } := by unfold mst; simp?! []
theorem m_set5 {l : List D} : (mst A q).set (A.length + 5) (.lst l) = mst A { q with en := l } := by unfold mst; simp?! []
/-! the heap -/
theorem x_hmake (hs : ∀ S, sem (n + 2) .size_of [c] S = .ok (.int z) S) (hl : q.cells.length < 16777216) : sem (n + 3) .Heap_make [.obj (A.length + 1), c] (mst A q) =
    .ok (.int q.next) (mst A { q with cells := putKD q.cells (.inl q.next) c, used := q.used + z, next := q.next + 1 }) := by
  rw [sem_Heap_make]; unfold b_Heap_make; simp?! [m_g0, m_g1, m_g2, m_g3, m_g4, m_g5, m_g6, m_now, m_fns, m_heap, m_serial, m_stack, m_events, m_entered, m_coll, m_used, m_room, m_next, m_cells, m_len, m_lenH, m_noA, m_noH, m_setNow, m_setSer, m_setUsed, m_setNext, m_set2, m_set3, m_set4, m_set5, hs, hl]
theorem x_hcell (hc : getK q.cells (.inl a) = some c) : sem (n + 2) .Heap_cell [.obj (A.length + 1), .int a] (mst A q) = .ok c (mst A q) := by
  rw [sem_Heap_cell]; unfold b_Heap_cell; simp?! [m_g0, m_g1, m_g2, m_g3, m_g4, m_g5, m_g6, m_now, m_fns, m_heap, m_serial, m_stack, m_events, m_entered, m_coll, m_used, m_room, m_next, m_cells, m_len, m_lenH, m_noA, m_noH, m_setNow, m_setSer, m_setUsed, m_setNext, m_set2, m_set3, m_set4, m_set5, hc]
theorem x_hput (hs : ∀ S, sem (n + 2) .size_of [c] S = .ok (.int z) S) (ho : ∀ S, sem (n + 2) .size_of [x] S = .ok (.int w) S) (hc : getK q.cells (.inl a) = some x) (hl : q.cells.length < 16777216) :
    sem (n + 3) .Heap_put [.obj (A.length + 1), .int a, c] (mst A q) = .ok .non (mst A { q with cells := putKD q.cells (.inl a) c, used := q.used + (z - w) }) := by
  rw [sem_Heap_put]; unfold b_Heap_put; simp?! [m_g0, m_g1, m_g2, m_g3, m_g4, m_g5, m_g6, m_now, m_fns, m_heap, m_serial, m_stack, m_events, m_entered, m_coll, m_used, m_room, m_next, m_cells, m_len, m_lenH, m_noA, m_noH, m_setNow, m_setSer, m_setUsed, m_setNext, m_set2, m_set3, m_set4, m_set5, hs, ho, hc, hl]
theorem x_fits (h : q.used + z ≤ q.room) : sem (n + 2) .Heap_fits [.obj (A.length + 1), .int z] (mst A q) = .ok (.bl true) (mst A q) := by
  rw [sem_Heap_fits]; unfold b_Heap_fits; simp?! [m_g0, m_g1, m_g2, m_g3, m_g4, m_g5, m_g6, m_now, m_fns, m_heap, m_serial, m_stack, m_events, m_entered, m_coll, m_used, m_room, m_next, m_cells, m_len, m_lenH, m_noA, m_noH, m_setNow, m_setSer, m_setUsed, m_setNext, m_set2, m_set3, m_set4, m_set5, oLe, h]
def lsz (fs : List D) : Int := if (1 + (fs.length : Int)) > 2 then 1 + (fs.length : Int) else 2
theorem x_hmake_con (hl : q.cells.length < 16777216) : sem (n + 3) .Heap_make [.obj (A.length + 1), .tup [.str "con", tag, .tup fs]] (mst A q) =
    .ok (.int q.next) (mst A { q with cells := putKD q.cells (.inl q.next) (.tup [.str "con", tag, .tup fs]), used := q.used + (1 + (fs.length : Int)), next := q.next + 1 }) := x_hmake (fun _ => x_size_con) hl
theorem x_hmake_part (hl : q.cells.length < 16777216) : sem (n + 3) .Heap_make [.obj (A.length + 1), .tup [.str "part", tag, .tup fs]] (mst A q) =
    .ok (.int q.next) (mst A { q with cells := putKD q.cells (.inl q.next) (.tup [.str "part", tag, .tup fs]), used := q.used + (1 + (fs.length : Int)), next := q.next + 1 }) := x_hmake (fun _ => x_size_part) hl
theorem x_hmake_later (hl : q.cells.length < 16777216) : sem (n + 3) .Heap_make [.obj (A.length + 1), .tup [.str "later", body, .tup fs, x]] (mst A q) =
    .ok (.int q.next) (mst A { q with cells := putKD q.cells (.inl q.next) (.tup [.str "later", body, .tup fs, x]), used := q.used + lsz fs, next := q.next + 1 }) := x_hmake (fun _ => x_size_later) hl
theorem x_hput_hole (hc : getK q.cells (.inl a) = some (.tup [.str "later", body, .tup fs, x])) (hl : q.cells.length < 16777216) :
    sem (n + 3) .Heap_put [.obj (A.length + 1), .int a, .tup [.str "hole"]] (mst A q) = .ok .non (mst A { q with cells := putKD q.cells (.inl a) (.tup [.str "hole"]), used := q.used + (2 - lsz fs) }) := x_hput (fun _ => x_size_hole) (fun _ => x_size_later) hc hl
theorem x_hput_on (hc : getK q.cells (.inl a) = some (.tup [.str "hole"])) (hl : q.cells.length < 16777216) :
    sem (n + 3) .Heap_put [.obj (A.length + 1), .int a, .tup [.str "on", x]] (mst A q) = .ok .non (mst A { q with cells := putKD q.cells (.inl a) (.tup [.str "on", x]) }) := by
  have h := x_hput (n := n) (A := A) (x := .tup [.str "hole"]) (c := .tup [.str "on", x]) (fun _ => x_size_on) (fun _ => x_size_hole) hc hl
  rw [h]; simp
theorem x_make_con (hl : q.cells.length < 16777216) : sem (n + 4) .Machine_make [.obj A.length, .tup [.str "con", tag, .tup fs]] (mst A q) =
    .ok (.int (2 * q.next)) (mst A { q with cells := putKD q.cells (.inl q.next) (.tup [.str "con", tag, .tup fs]), used := q.used + (1 + (fs.length : Int)), next := q.next + 1 }) := by
  rw [sem_Machine_make]; unfold b_Machine_make; simp?! [m_g0, m_g1, m_g2, m_g3, m_g4, m_g5, m_g6, m_now, m_fns, m_heap, m_serial, m_stack, m_events, m_entered, m_coll, m_used, m_room, m_next, m_cells, m_len, m_lenH, m_noA, m_noH, m_setNow, m_setSer, m_setUsed, m_setNext, m_set2, m_set3, m_set4, m_set5, x_hmake_con, hl]
theorem x_make_part (hl : q.cells.length < 16777216) : sem (n + 4) .Machine_make [.obj A.length, .tup [.str "part", tag, .tup fs]] (mst A q) =
    .ok (.int (2 * q.next)) (mst A { q with cells := putKD q.cells (.inl q.next) (.tup [.str "part", tag, .tup fs]), used := q.used + (1 + (fs.length : Int)), next := q.next + 1 }) := by
  rw [sem_Machine_make]; unfold b_Machine_make; simp?! [m_g0, m_g1, m_g2, m_g3, m_g4, m_g5, m_g6, m_now, m_fns, m_heap, m_serial, m_stack, m_events, m_entered, m_coll, m_used, m_room, m_next, m_cells, m_len, m_lenH, m_noA, m_noH, m_setNow, m_setSer, m_setUsed, m_setNext, m_set2, m_set3, m_set4, m_set5, x_hmake_part, hl]
theorem x_opw_slot (h : atI fs a = some x) : sem (n + 2) .operand_word [.tup [.str "slot", .int a], .tup fs] S = .ok x S := by
  rw [sem_operand_word]; unfold b_operand_word; simp?! [h]
theorem x_opw_glob : sem (n + 2) .operand_word [.tup [.str "global", .int a], x] S = .ok (.int (2 * a)) S := by
  rw [sem_operand_word]; unfold b_operand_word; simp?! []
theorem x_opw_num : sem (n + 2) .operand_word [.tup [.str "number", .int a], x] S = .ok (.int (2 * a + 1)) S := by
  rw [sem_operand_word]; unfold b_operand_word; simp?! []
theorem x_opws0 : sem (n + 3) .operand_words [.tup [], x] S = .ok (.tup []) S := by
  rw [sem_operand_words]; unfold b_operand_words; simp?! []
theorem x_room0 : sem (n + 3) .Machine_has_room [.obj A.length, .int 0] (mst A q) = .ok (.bl true) (mst A q) := by
  rw [sem_Machine_has_room]; unfold b_Machine_has_room; simp?! [oGt]
theorem x_room (h : q.used + z ≤ q.room) (hz : 0 < z) : sem (n + 3) .Machine_has_room [.obj A.length, .int z] (mst A q) = .ok (.bl true) (mst A q) := by
  rw [sem_Machine_has_room]; unfold b_Machine_has_room
  simp?! [m_g0, m_g1, m_g2, m_g3, m_g4, m_g5, m_g6, m_now, m_fns, m_heap, m_serial, m_stack, m_events, m_entered, m_coll, m_used, m_room, m_next, m_cells, m_len, m_lenH, m_noA, m_noH, m_setNow, m_setSer, m_setUsed, m_setNext, m_set2, m_set3, m_set4, m_set5, oGt, hz, x_fits, h]
end Nk66

namespace Nk66
open PySem L2 Nd
variable {n : Nat} {A S : Store} {q : Q} {a b z w v t ser : Int} {c x y body fr frm op : D} {ws st fs ms : List D} {tag v' : D} {k : Str} {l : List D}
def Stp (q q' : Q) : Prop := ∀ (n : Nat) (A : Store), sem (n + 12) .Machine_step [.obj A.length] (mst A q) = .ok .non (mst A q')
theorem x_bsize0 (h : k ≠ "con" ∧ k ≠ "let") : sem (n + 3) .body_size [.tup (.str k :: l)] S = .ok (.int 0) S := by
  rw [sem_body_size]; unfold b_body_size; simp?! [h.1, h.2]
theorem x_bsize_con : sem (n + 3) .body_size [.tup [.str "con", tag, .tup fs]] S = .ok (.int (1 + (fs.length : Int))) S := by
  rw [sem_body_size]; unfold b_body_size; simp?! []
/-! entering -/
theorem s_enter_num (hn : q.now = .tup [.str "enter", .int (2 * v + 1)]) : Stp q { q with now := .tup [.str "value", .int (2 * v + 1)] } := fun n A => by
  have e : sem (n + 11) .Machine_enter [.obj A.length, .int (2 * v + 1)] (mst A q) = .ok .non (mst A { q with now := .tup [.str "value", .int (2 * v + 1)] }) := by
    rw [sem_Machine_enter]; unfold b_Machine_enter; simp?! [m_g0, m_g1, m_g2, m_g3, m_g4, m_g5, m_g6, m_now, m_fns, m_heap, m_serial, m_stack, m_events, m_entered, m_coll, m_used, m_room, m_next, m_cells, m_len, m_lenH, m_noA, m_noH, m_setNow, m_setSer, m_setUsed, m_setNext, m_set2, m_set3, m_set4, m_set5, fm1]
  rw [sem_Machine_step]; unfold b_Machine_step; simp?! [m_g0, m_g1, m_g2, m_g3, m_g4, m_g5, m_g6, m_now, m_fns, m_heap, m_serial, m_stack, m_events, m_entered, m_coll, m_used, m_room, m_next, m_cells, m_len, m_lenH, m_noA, m_noH, m_setNow, m_setSer, m_setUsed, m_setNext, m_set2, m_set3, m_set4, m_set5, hn, e]
theorem s_enter_con (hn : q.now = .tup [.str "enter", .int (2 * a)]) (hc : getK q.cells (.inl a) = some (.tup (.str "con" :: l))) : Stp q { q with now := .tup [.str "value", .int (2 * a)] } := fun n A => by
  have e : sem (n + 11) .Machine_enter [.obj A.length, .int (2 * a)] (mst A q) = .ok .non (mst A { q with now := .tup [.str "value", .int (2 * a)] }) := by
    rw [sem_Machine_enter]; unfold b_Machine_enter; simp?! [m_g0, m_g1, m_g2, m_g3, m_g4, m_g5, m_g6, m_now, m_fns, m_heap, m_serial, m_stack, m_events, m_entered, m_coll, m_used, m_room, m_next, m_cells, m_len, m_lenH, m_noA, m_noH, m_setNow, m_setSer, m_setUsed, m_setNext, m_set2, m_set3, m_set4, m_set5, fm0, fd0, x_hcell hc, K_CONTAINERS]
  rw [sem_Machine_step]; unfold b_Machine_step; simp?! [m_g0, m_g1, m_g2, m_g3, m_g4, m_g5, m_g6, m_now, m_fns, m_heap, m_serial, m_stack, m_events, m_entered, m_coll, m_used, m_room, m_next, m_cells, m_len, m_lenH, m_noA, m_noH, m_setNow, m_setSer, m_setUsed, m_setNext, m_set2, m_set3, m_set4, m_set5, hn, e]
theorem s_enter_part (hn : q.now = .tup [.str "enter", .int (2 * a)]) (hc : getK q.cells (.inl a) = some (.tup (.str "part" :: l))) : Stp q { q with now := .tup [.str "value", .int (2 * a)] } := fun n A => by
  have e : sem (n + 11) .Machine_enter [.obj A.length, .int (2 * a)] (mst A q) = .ok .non (mst A { q with now := .tup [.str "value", .int (2 * a)] }) := by
    rw [sem_Machine_enter]; unfold b_Machine_enter; simp?! [m_g0, m_g1, m_g2, m_g3, m_g4, m_g5, m_g6, m_now, m_fns, m_heap, m_serial, m_stack, m_events, m_entered, m_coll, m_used, m_room, m_next, m_cells, m_len, m_lenH, m_noA, m_noH, m_setNow, m_setSer, m_setUsed, m_setNext, m_set2, m_set3, m_set4, m_set5, fm0, fd0, x_hcell hc, K_CONTAINERS]
  rw [sem_Machine_step]; unfold b_Machine_step; simp?! [m_g0, m_g1, m_g2, m_g3, m_g4, m_g5, m_g6, m_now, m_fns, m_heap, m_serial, m_stack, m_events, m_entered, m_coll, m_used, m_room, m_next, m_cells, m_len, m_lenH, m_noA, m_noH, m_setNow, m_setSer, m_setUsed, m_setNext, m_set2, m_set3, m_set4, m_set5, hn, e]
theorem s_enter_on (hn : q.now = .tup [.str "enter", .int (2 * a)]) (hc : getK q.cells (.inl a) = some (.tup [.str "on", x])) : Stp q { q with now := .tup [.str "enter", x] } := fun n A => by
  have e : sem (n + 11) .Machine_enter [.obj A.length, .int (2 * a)] (mst A q) = .ok .non (mst A { q with now := .tup [.str "enter", x] }) := by
    rw [sem_Machine_enter]; unfold b_Machine_enter; simp?! [m_g0, m_g1, m_g2, m_g3, m_g4, m_g5, m_g6, m_now, m_fns, m_heap, m_serial, m_stack, m_events, m_entered, m_coll, m_used, m_room, m_next, m_cells, m_len, m_lenH, m_noA, m_noH, m_setNow, m_setSer, m_setUsed, m_setNext, m_set2, m_set3, m_set4, m_set5, fm0, fd0, x_hcell hc, K_CONTAINERS]
  rw [sem_Machine_step]; unfold b_Machine_step; simp?! [m_g0, m_g1, m_g2, m_g3, m_g4, m_g5, m_g6, m_now, m_fns, m_heap, m_serial, m_stack, m_events, m_entered, m_coll, m_used, m_room, m_next, m_cells, m_len, m_lenH, m_noA, m_noH, m_setNow, m_setSer, m_setUsed, m_setNext, m_set2, m_set3, m_set4, m_set5, hn, e]
theorem s_enter_hole (hn : q.now = .tup [.str "enter", .int (2 * a)]) (hc : getK q.cells (.inl a) = some (.tup [.str "hole"])) : Stp q { q with now := .tup [.str "loop"] } := fun n A => by
  have e : sem (n + 11) .Machine_enter [.obj A.length, .int (2 * a)] (mst A q) = .ok .non (mst A { q with now := .tup [.str "loop"] }) := by
    rw [sem_Machine_enter]; unfold b_Machine_enter; simp?! [m_g0, m_g1, m_g2, m_g3, m_g4, m_g5, m_g6, m_now, m_fns, m_heap, m_serial, m_stack, m_events, m_entered, m_coll, m_used, m_room, m_next, m_cells, m_len, m_lenH, m_noA, m_noH, m_setNow, m_setSer, m_setUsed, m_setNext, m_set2, m_set3, m_set4, m_set5, fm0, fd0, x_hcell hc, K_CONTAINERS]
  rw [sem_Machine_step]; unfold b_Machine_step; simp?! [m_g0, m_g1, m_g2, m_g3, m_g4, m_g5, m_g6, m_now, m_fns, m_heap, m_serial, m_stack, m_events, m_entered, m_coll, m_used, m_room, m_next, m_cells, m_len, m_lenH, m_noA, m_noH, m_setNow, m_setSer, m_setUsed, m_setNext, m_set2, m_set3, m_set4, m_set5, hn, e]
theorem s_enter_later (hn : q.now = .tup [.str "enter", .int (2 * a)]) (hc : getK q.cells (.inl a) = some (.tup [.str "later", body, .tup fs, x])) (h1 : q.cells.length < 16777216) (h2 : q.stack.length < 16777216) (h3 : q.en.length < 16777216) :
    Stp q { q with now := .tup [.str "eval", body, .tup fs], cells := putKD q.cells (.inl a) (.tup [.str "hole"]), used := q.used + (2 - lsz fs), en := q.en ++ [x], stack := q.stack ++ [.tup [.str "update", .int a]] } := fun n A => by
  have e : sem (n + 11) .Machine_enter [.obj A.length, .int (2 * a)] (mst A q) = .ok .non (mst A { q with now := .tup [.str "eval", body, .tup fs], cells := putKD q.cells (.inl a) (.tup [.str "hole"]), used := q.used + (2 - lsz fs), en := q.en ++ [x], stack := q.stack ++ [.tup [.str "update", .int a]] }) := by
    rw [sem_Machine_enter]; unfold b_Machine_enter; simp?! [m_g0, m_g1, m_g2, m_g3, m_g4, m_g5, m_g6, m_now, m_fns, m_heap, m_serial, m_stack, m_events, m_entered, m_coll, m_used, m_room, m_next, m_cells, m_len, m_lenH, m_noA, m_noH, m_setNow, m_setSer, m_setUsed, m_setNext, m_set2, m_set3, m_set4, m_set5, fm0, fd0, x_hcell hc, K_CONTAINERS, x_hput_hole hc h1, h2, h3]
  rw [sem_Machine_step]; unfold b_Machine_step; simp?! [m_g0, m_g1, m_g2, m_g3, m_g4, m_g5, m_g6, m_now, m_fns, m_heap, m_serial, m_stack, m_events, m_entered, m_coll, m_used, m_room, m_next, m_cells, m_len, m_lenH, m_noA, m_noH, m_setNow, m_setSer, m_setUsed, m_setNext, m_set2, m_set3, m_set4, m_set5, hn, e]
/-! evaluating -/
theorem s_eval {q' : Q} (hn : q.now = .tup [.str "eval", body, frm]) (hz : ∀ n S, sem (n + 3) .body_size [body] S = .ok (.int z) S) (hr : z = 0 ∨ (0 < z ∧ q.used + z ≤ q.room)) (h : ∀ n A, sem (n + 11) .Machine_evaluate [.obj A.length, body, frm] (mst A q) = .ok .non (mst A q')) : Stp q q' := fun n A => by
  have e : sem (n + 11) .Machine_has_room [.obj A.length, .int z] (mst A q) = .ok (.bl true) (mst A q) := by
    rcases hr with rfl | ⟨h1, h2⟩
    · exact x_room0
    · exact x_room h2 h1
  rw [sem_Machine_step]; unfold b_Machine_step; simp?! [m_g0, m_g1, m_g2, m_g3, m_g4, m_g5, m_g6, m_now, m_fns, m_heap, m_serial, m_stack, m_events, m_entered, m_coll, m_used, m_room, m_next, m_cells, m_len, m_lenH, m_noA, m_noH, m_setNow, m_setSer, m_setUsed, m_setNext, m_set2, m_set3, m_set4, m_set5, hn, hz, e, h]
theorem s_give (hn : q.now = .tup [.str "eval", .tup [.str "give", op], frm]) (ho : ∀ n S, sem (n + 2) .operand_word [op, frm] S = .ok x S) : Stp q { q with now := .tup [.str "enter", x] } :=
  s_eval hn (fun _ _ => x_bsize0 (by simp?! [])) (.inl rfl) fun n A => by
    rw [sem_Machine_evaluate]; unfold b_Machine_evaluate; simp?! [m_g0, m_g1, m_g2, m_g3, m_g4, m_g5, m_g6, m_now, m_fns, m_heap, m_serial, m_stack, m_events, m_entered, m_coll, m_used, m_room, m_next, m_cells, m_len, m_lenH, m_noA, m_noH, m_setNow, m_setSer, m_setUsed, m_setNext, m_set2, m_set3, m_set4, m_set5, ho]
theorem s_call {ops : D} (hn : q.now = .tup [.str "eval", .tup [.str "call", op, ops], frm]) (ho : ∀ n S, sem (n + 2) .operand_word [op, frm] S = .ok x S) (hs : ∀ n S, sem (n + 3) .operand_words [ops, frm] S = .ok (.tup ws) S) (hl : q.stack.length < 16777216) : Stp q { q with now := .tup [.str "enter", x], stack := q.stack ++ [.tup [.str "apply", .tup ws]] } :=
  s_eval hn (fun _ _ => x_bsize0 (by simp?! [])) (.inl rfl) fun n A => by
    rw [sem_Machine_evaluate]; unfold b_Machine_evaluate; simp?! [m_g0, m_g1, m_g2, m_g3, m_g4, m_g5, m_g6, m_now, m_fns, m_heap, m_serial, m_stack, m_events, m_entered, m_coll, m_used, m_room, m_next, m_cells, m_len, m_lenH, m_noA, m_noH, m_setNow, m_setSer, m_setUsed, m_setNext, m_set2, m_set3, m_set4, m_set5, ho, hs, hl]
theorem s_con {ops : List D} (hn : q.now = .tup [.str "eval", .tup [.str "con", tag, .tup ops], frm]) (hs : ∀ n S, sem (n + 3) .operand_words [.tup ops, frm] S = .ok (.tup ws) S) (hl : q.cells.length < 16777216) (hr : q.used + (1 + (ops.length : Int)) ≤ q.room) :
    Stp q { q with now := .tup [.str "value", .int (2 * q.next)], cells := putKD q.cells (.inl q.next) (.tup [.str "con", tag, .tup ws]), used := q.used + (1 + (ws.length : Int)), next := q.next + 1 } :=
  s_eval hn (fun _ _ => x_bsize_con) (.inr ⟨by omega, hr⟩) fun n A => by
    rw [sem_Machine_evaluate]; unfold b_Machine_evaluate; simp?! [m_g0, m_g1, m_g2, m_g3, m_g4, m_g5, m_g6, m_now, m_fns, m_heap, m_serial, m_stack, m_events, m_entered, m_coll, m_used, m_room, m_next, m_cells, m_len, m_lenH, m_noA, m_noH, m_setNow, m_setSer, m_setUsed, m_setNext, m_set2, m_set3, m_set4, m_set5, hs, x_make_con, hl]
theorem s_prim (hn : q.now = .tup [.str "eval", .tup [.str "prim", y, op, c], frm]) (ho : ∀ n S, sem (n + 2) .operand_word [op, frm] S = .ok x S) (hl : q.stack.length < 16777216) : Stp q { q with now := .tup [.str "enter", x], stack := q.stack ++ [.tup [.str "right", y, c, frm]] } :=
  s_eval hn (fun _ _ => x_bsize0 (by simp?! [])) (.inl rfl) fun n A => by
    rw [sem_Machine_evaluate]; unfold b_Machine_evaluate; simp?! [m_g0, m_g1, m_g2, m_g3, m_g4, m_g5, m_g6, m_now, m_fns, m_heap, m_serial, m_stack, m_events, m_entered, m_coll, m_used, m_room, m_next, m_cells, m_len, m_lenH, m_noA, m_noH, m_setNow, m_setSer, m_setUsed, m_setNext, m_set2, m_set3, m_set4, m_set5, ho, hl]
theorem s_note (hn : q.now = .tup [.str "eval", .tup [.str "note", x, body], frm]) (hl : q.ev.length < 16777216) : Stp q { q with now := .tup [.str "eval", body, frm], ev := q.ev ++ [.tup [.str "note", x]] } :=
  s_eval hn (fun _ _ => x_bsize0 (by simp?! [])) (.inl rfl) fun n A => by
    rw [sem_Machine_evaluate]; unfold b_Machine_evaluate; simp?! [m_g0, m_g1, m_g2, m_g3, m_g4, m_g5, m_g6, m_now, m_fns, m_heap, m_serial, m_stack, m_events, m_entered, m_coll, m_used, m_room, m_next, m_cells, m_len, m_lenH, m_noA, m_noH, m_setNow, m_setSer, m_setUsed, m_setNext, m_set2, m_set3, m_set4, m_set5, hl]
theorem s_seq (hn : q.now = .tup [.str "eval", .tup [.str "seq", x, body], frm]) (hl : q.stack.length < 16777216) : Stp q { q with now := .tup [.str "eval", x, frm], stack := q.stack ++ [.tup [.str "seq", body, frm]] } :=
  s_eval hn (fun _ _ => x_bsize0 (by simp?! [])) (.inl rfl) fun n A => by
    rw [sem_Machine_evaluate]; unfold b_Machine_evaluate; simp?! [m_g0, m_g1, m_g2, m_g3, m_g4, m_g5, m_g6, m_now, m_fns, m_heap, m_serial, m_stack, m_events, m_entered, m_coll, m_used, m_room, m_next, m_cells, m_len, m_lenH, m_noA, m_noH, m_setNow, m_setSer, m_setUsed, m_setNext, m_set2, m_set3, m_set4, m_set5, hl]
theorem s_case (hn : q.now = .tup [.str "eval", .tup [.str "case", x, y, c], frm]) (hl : q.stack.length < 16777216) : Stp q { q with now := .tup [.str "eval", x, frm], stack := q.stack ++ [.tup [.str "case", y, c, frm]] } :=
  s_eval hn (fun _ _ => x_bsize0 (by simp?! [])) (.inl rfl) fun n A => by
    rw [sem_Machine_evaluate]; unfold b_Machine_evaluate; simp?! [m_g0, m_g1, m_g2, m_g3, m_g4, m_g5, m_g6, m_now, m_fns, m_heap, m_serial, m_stack, m_events, m_entered, m_coll, m_used, m_room, m_next, m_cells, m_len, m_lenH, m_noA, m_noH, m_setNow, m_setSer, m_setUsed, m_setNext, m_set2, m_set3, m_set4, m_set5, hl]
theorem s_pick (hn : q.now = .tup [.str "eval", .tup [.str "pick", x, y, c], frm]) (hl : q.stack.length < 16777216) : Stp q { q with now := .tup [.str "eval", x, frm], stack := q.stack ++ [.tup [.str "pick", y, c, frm]] } :=
  s_eval hn (fun _ _ => x_bsize0 (by simp?! [])) (.inl rfl) fun n A => by
    rw [sem_Machine_evaluate]; unfold b_Machine_evaluate; simp?! [m_g0, m_g1, m_g2, m_g3, m_g4, m_g5, m_g6, m_now, m_fns, m_heap, m_serial, m_stack, m_events, m_entered, m_coll, m_used, m_room, m_next, m_cells, m_len, m_lenH, m_noA, m_noH, m_setNow, m_setSer, m_setUsed, m_setNext, m_set2, m_set3, m_set4, m_set5, hl]
end Nk66

namespace Nk66
open PySem L2 Nd
variable {n : Nat} {A S : Store} {q q' : Q} {a b z w v t ser i j : Int} {c x y body fr frm op : D} {ws st fs ms : List D} {tag v' r : D} {k : Str} {l : List D} {cells : List (Key × D)}
/-! meeting -/
theorem x_msize0 (hs : q.stack = st ++ [.tup (.str k :: l)]) (hn : q.now = .tup [y, x]) (h : k ≠ "prim" ∧ k ≠ "apply") : sem (n + 11) .Machine_meeting_size [.obj A.length] (mst A q) = .ok (.int 0) (mst A q) := by
  rw [sem_Machine_meeting_size]; unfold b_Machine_meeting_size; simp?! [m_g0, m_g1, m_g2, m_g3, m_g4, m_g5, m_g6, m_now, m_fns, m_heap, m_serial, m_stack, m_events, m_entered, m_coll, m_used, m_room, m_next, m_cells, m_len, m_lenH, m_noA, m_noH, m_setNow, m_setSer, m_setUsed, m_setNext, m_set2, m_set3, m_set4, m_set5, hs, hn, h.1, h.2]
theorem s_meet (hn : q.now = .tup [.str "value", x]) (hs : q.stack = st ++ [fr]) (hz : ∀ n A, sem (n + 11) .Machine_meeting_size [.obj A.length] (mst A q) = .ok (.int z) (mst A q)) (hr : z = 0 ∨ (0 < z ∧ q.used + z ≤ q.room))
    (h : ∀ n A, sem (n + 11) .Machine_meet [.obj A.length, x, fr] (mst A { q with stack := st }) = .ok .non (mst A q')) : Stp q q' := fun n A => by
  have e : sem (n + 11) .Machine_has_room [.obj A.length, .int z] (mst A q) = .ok (.bl true) (mst A q) := by
    rcases hr with rfl | ⟨h1, h2⟩
    · exact x_room0
    · exact x_room h2 h1
  have h1 := h n A
  simp only [hn] at h1
  rw [sem_Machine_step]; unfold b_Machine_step; simp?! [m_g0, m_g1, m_g2, m_g3, m_g4, m_g5, m_g6, m_now, m_fns, m_heap, m_serial, m_stack, m_events, m_entered, m_coll, m_used, m_room, m_next, m_cells, m_len, m_lenH, m_noA, m_noH, m_setNow, m_setSer, m_setUsed, m_setNext, m_set2, m_set3, m_set4, m_set5, hn, hz, e, hs, h1]
theorem s_update (hn : q.now = .tup [.str "value", x]) (hs : q.stack = st ++ [.tup [.str "update", .int a]]) (hc : getK q.cells (.inl a) = some (.tup [.str "hole"])) (hl : q.cells.length < 16777216) :
    Stp q { q with stack := st, cells := putKD q.cells (.inl a) (.tup [.str "on", x]) } :=
  s_meet hn hs (fun n A => x_msize0 hs hn (by simp?! [])) (.inl rfl) fun n A => by
    have e := x_hput_on (n := n + 7) (A := A) (q := { q with stack := st }) (x := x) hc hl
    rw [sem_Machine_meet]; unfold b_Machine_meet; simp?! [m_g0, m_g1, m_g2, m_g3, m_g4, m_g5, m_g6, m_now, m_fns, m_heap, m_serial, m_stack, m_events, m_entered, m_coll, m_used, m_room, m_next, m_cells, m_len, m_lenH, m_noA, m_noH, m_setNow, m_setSer, m_setUsed, m_setNext, m_set2, m_set3, m_set4, m_set5, e]
theorem s_mseq (hn : q.now = .tup [.str "value", x]) (hs : q.stack = st ++ [.tup [.str "seq", body, .tup fs]]) (hl : fs.length + 1 ≤ 16777216) :
    Stp q { q with stack := st, now := .tup [.str "eval", body, .tup (fs ++ [x])] } :=
  s_meet hn hs (fun n A => x_msize0 hs hn (by simp?! [])) (.inl rfl) fun n A => by
    rw [sem_Machine_meet]; unfold b_Machine_meet; simp?! [m_g0, m_g1, m_g2, m_g3, m_g4, m_g5, m_g6, m_now, m_fns, m_heap, m_serial, m_stack, m_events, m_entered, m_coll, m_used, m_room, m_next, m_cells, m_len, m_lenH, m_noA, m_noH, m_setNow, m_setSer, m_setUsed, m_setNext, m_set2, m_set3, m_set4, m_set5, hl]
theorem s_head (hn : q.now = .tup [.str "value", .int (2 * v + 1)]) (hs : q.stack = st ++ [.tup [.str "head", x]]) (h1 : q.ev.length < 16777216) (h2 : st.length < 16777216) :
    Stp q { q with stack := st ++ [.tup [.str "show"]], now := .tup [.str "enter", x], ev := q.ev ++ [.tup [.str "show", .int v]] } :=
  s_meet hn hs (fun n A => x_msize0 hs hn (by simp?! [])) (.inl rfl) fun n A => by
    have e : sem (n + 10) .Machine_meet_number [.obj A.length, .int v, .tup [.str "head", x]] (mst A { q with stack := st }) = .ok .non (mst A { q with stack := st ++ [.tup [.str "show"]], now := .tup [.str "enter", x], ev := q.ev ++ [.tup [.str "show", .int v]] }) := by
      rw [sem_Machine_meet_number]; unfold b_Machine_meet_number; simp?! [m_g0, m_g1, m_g2, m_g3, m_g4, m_g5, m_g6, m_now, m_fns, m_heap, m_serial, m_stack, m_events, m_entered, m_coll, m_used, m_room, m_next, m_cells, m_len, m_lenH, m_noA, m_noH, m_setNow, m_setSer, m_setUsed, m_setNext, m_set2, m_set3, m_set4, m_set5, h1, h2]
    rw [sem_Machine_meet]; unfold b_Machine_meet; simp?! [m_g0, m_g1, m_g2, m_g3, m_g4, m_g5, m_g6, m_now, m_fns, m_heap, m_serial, m_stack, m_events, m_entered, m_coll, m_used, m_room, m_next, m_cells, m_len, m_lenH, m_noA, m_noH, m_setNow, m_setSer, m_setUsed, m_setNext, m_set2, m_set3, m_set4, m_set5, fm1, fd1, e]
theorem s_right (hn : q.now = .tup [.str "value", .int (2 * v + 1)]) (hs : q.stack = st ++ [.tup [.str "right", y, op, frm]]) (ho : ∀ n S, sem (n + 2) .operand_word [op, frm] S = .ok x S) (h2 : st.length < 16777216) :
    Stp q { q with stack := st ++ [.tup [.str "prim", y, .int v]], now := .tup [.str "enter", x] } :=
  s_meet hn hs (fun n A => x_msize0 hs hn (by simp?! [])) (.inl rfl) fun n A => by
    have e : sem (n + 10) .Machine_meet_number [.obj A.length, .int v, .tup [.str "right", y, op, frm]] (mst A { q with stack := st }) = .ok .non (mst A { q with stack := st ++ [.tup [.str "prim", y, .int v]], now := .tup [.str "enter", x] }) := by
      rw [sem_Machine_meet_number]; unfold b_Machine_meet_number; simp?! [m_g0, m_g1, m_g2, m_g3, m_g4, m_g5, m_g6, m_now, m_fns, m_heap, m_serial, m_stack, m_events, m_entered, m_coll, m_used, m_room, m_next, m_cells, m_len, m_lenH, m_noA, m_noH, m_setNow, m_setSer, m_setUsed, m_setNext, m_set2, m_set3, m_set4, m_set5, h2, ho]
    rw [sem_Machine_meet]; unfold b_Machine_meet; simp?! [m_g0, m_g1, m_g2, m_g3, m_g4, m_g5, m_g6, m_now, m_fns, m_heap, m_serial, m_stack, m_events, m_entered, m_coll, m_used, m_room, m_next, m_cells, m_len, m_lenH, m_noA, m_noH, m_setNow, m_setSer, m_setUsed, m_setNext, m_set2, m_set3, m_set4, m_set5, fm1, fd1, e]
theorem x_fault (hl : q.ev.length < 16777216) : sem (n + 2) .Machine_fault [.obj A.length, x] (mst A q) = .ok .non (mst A { q with now := .tup [.str "fault", x], ev := q.ev ++ [.tup [.str "fault", x]] }) := by
  rw [sem_Machine_fault]; unfold b_Machine_fault; simp?! [m_g0, m_g1, m_g2, m_g3, m_g4, m_g5, m_g6, m_now, m_fns, m_heap, m_serial, m_stack, m_events, m_entered, m_coll, m_used, m_room, m_next, m_cells, m_len, m_lenH, m_noA, m_noH, m_setNow, m_setSer, m_setUsed, m_setNext, m_set2, m_set3, m_set4, m_set5, hl]
theorem x_default0 (hl : q.ev.length < 16777216) : sem (n + 3) .Machine_meet_default [.obj A.length, x, .tup [y, r, .non, frm]] (mst A q) = .ok .non (mst A { q with now := .tup [.str "fault", .str "no match"], ev := q.ev ++ [.tup [.str "fault", .str "no match"]] }) := by
  rw [sem_Machine_meet_default]; unfold b_Machine_meet_default; simp?! [m_g0, m_g1, m_g2, m_g3, m_g4, m_g5, m_g6, m_now, m_fns, m_heap, m_serial, m_stack, m_events, m_entered, m_coll, m_used, m_room, m_next, m_cells, m_len, m_lenH, m_noA, m_noH, m_setNow, m_setSer, m_setUsed, m_setNext, m_set2, m_set3, m_set4, m_set5, x_fault, hl]
theorem x_default1 (hb : isNon body = false) (hl : fs.length + 1 ≤ 16777216) : sem (n + 3) .Machine_meet_default [.obj A.length, x, .tup [y, r, body, .tup fs]] (mst A q) = .ok .non (mst A { q with now := .tup [.str "eval", body, .tup (fs ++ [x])] }) := by
  rw [sem_Machine_meet_default]; unfold b_Machine_meet_default; simp?! [m_g0, m_g1, m_g2, m_g3, m_g4, m_g5, m_g6, m_now, m_fns, m_heap, m_serial, m_stack, m_events, m_entered, m_coll, m_used, m_room, m_next, m_cells, m_len, m_lenH, m_noA, m_noH, m_setNow, m_setSer, m_setUsed, m_setNext, m_set2, m_set3, m_set4, m_set5, hb, hl]
/-! numbers -/
def lim (v : Int) : Prop := (if v < 0 then -v else v) ≤ 1000000000000000
theorem x_ar_add : sem (n + 2) .arithmetic [.str "+", .int i, .int j] S = .ok (.int (i + j)) S := by rw [sem_arithmetic]; unfold b_arithmetic; simp?! []
theorem x_ar_sub : sem (n + 2) .arithmetic [.str "-", .int i, .int j] S = .ok (.int (i - j)) S := by rw [sem_arithmetic]; unfold b_arithmetic; simp?! []
theorem x_ar_mul (h : i.natAbs < 18446744073709551616) : sem (n + 2) .arithmetic [.str "*", .int i, .int j] S = .ok (.int (i * j)) S := by rw [sem_arithmetic]; unfold b_arithmetic; simp?! [e_mul, h]
theorem x_ar_div (h : j ≠ 0 ∧ j.natAbs.log2 < 9000) : sem (n + 2) .arithmetic [.str "div", .int i, .int j] S = .ok (.int (i.fdiv j)) S := by rw [sem_arithmetic]; unfold b_arithmetic; simp?! [e_div, h]
theorem x_ar_mod (h : j ≠ 0) : sem (n + 2) .arithmetic [.str "mod", .int i, .int j] S = .ok (.int (i.fmod j)) S := by rw [sem_arithmetic]; unfold b_arithmetic; simp?! [e_mod, h]
theorem x_co_eq : sem (n + 2) .compared [.str "==", .int i, .int j] S = .ok (.int (if i = j then 1 else 0)) S := by rw [sem_compared]; unfold b_compared; simp?! [decide_eq_true_eq]
theorem x_co_lt : sem (n + 2) .compared [.str "<", .int i, .int j] S = .ok (.int (if i < j then 1 else 0)) S := by rw [sem_compared]; unfold b_compared; simp?! [oLt, decide_eq_true_eq]
theorem x_co_le : sem (n + 2) .compared [.str "<=", .int i, .int j] S = .ok (.int (if i ≤ j then 1 else 0)) S := by rw [sem_compared]; unfold b_compared; simp?! [oLe, decide_eq_true_eq]
def isCmp (s : String) : Bool := s == "==" || s == "<" || s == "<="
theorem x_pr_cmp {s : String} (hs : isCmp s = true) (hc : ∀ n S, sem (n + 2) .compared [.str s, .int i, .int j] S = .ok (.int v) S) (hl : q.cells.length < 16777216) :
    sem (n + 9) .Machine_meet_second [.obj A.length, .str s, .int i, .int j] (mst A q) = .ok .non (mst A { q with now := .tup [.str "value", .int (2 * q.next)], cells := putKD q.cells (.inl q.next) (.tup [.str "con", .int v, .tup []]), used := q.used + 1, next := q.next + 1 }) := by
  have h : (decide ("==" = s) || (decide ("<" = s) || decide ("<=" = s))) = true := by
    unfold isCmp at hs
    simp only [Bool.or_eq_true, beq_iff_eq] at hs
    rcases hs with (rfl | rfl) | rfl <;> decide
  rw [sem_Machine_meet_second]; unfold b_Machine_meet_second
  have e := x_make_con (n := n + 4) (A := A) (q := q) (tag := .int v) (fs := []) hl
  simp only [List.length_nil, Int.natCast_zero, Int.add_zero] at e
  simp?! [m_g0, m_g1, m_g2, m_g3, m_g4, m_g5, m_g6, m_now, m_fns, m_heap, m_serial, m_stack, m_events, m_entered, m_coll, m_used, m_room, m_next, m_cells, m_len, m_lenH, m_noA, m_noH, m_setNow, m_setSer, m_setUsed, m_setNext, m_set2, m_set3, m_set4, m_set5, h, hc, e]
end Nk66

namespace Nk66
open PySem L2 Nd
variable {n : Nat} {A S : Store} {q q' : Q} {a b z w v t ser i j : Int} {c x y body fr frm op rows dflt : D} {ws st fs ms : List D} {tag v' r : D} {k : Str} {l : List D} {cells : List (Key × D)} {s : String}
def isDM (s : String) : Bool := s == "div" || s == "mod"
theorem cmpD : isCmp s = (decide ("==" = s) || (decide ("<" = s) || decide ("<=" = s))) := by
  unfold isCmp
  by_cases h1 : s = "=="
  · subst h1; decide
  · by_cases h2 : s = "<"
    · subst h2; decide
    · by_cases h3 : s = "<="
      · subst h3; decide
      · simp [h1, h2, h3, Ne.symm h1, Ne.symm h2, Ne.symm h3]
theorem dmD : isDM s = (decide ("div" = s) || decide ("mod" = s)) := by
  unfold isDM
  by_cases h1 : s = "div"
  · subst h1; decide
  · by_cases h2 : s = "mod"
    · subst h2; decide
    · simp [h1, h2, Ne.symm h1, Ne.symm h2]
theorem x_msize_prim (hs : q.stack = st ++ [.tup [.str "prim", .str s, x]]) (hn : q.now = .tup [y, .int (2 * j + 1)]) : sem (n + 11) .Machine_meeting_size [.obj A.length] (mst A q) = .ok (.int (if isCmp s = true then 1 else 0)) (mst A q) := by
  rw [sem_Machine_meeting_size]; unfold b_Machine_meeting_size
  cases h : isCmp s with
  | true => rw [cmpD] at h; simp?! [m_g0, m_g1, m_g2, m_g3, m_g4, m_g5, m_g6, m_now, m_fns, m_heap, m_serial, m_stack, m_events, m_entered, m_coll, m_used, m_room, m_next, m_cells, m_len, m_lenH, m_noA, m_noH, m_setNow, m_setSer, m_setUsed, m_setNext, m_set2, m_set3, m_set4, m_set5, hs, hn, h, fm1]
  | false => rw [cmpD] at h; simp?! [m_g0, m_g1, m_g2, m_g3, m_g4, m_g5, m_g6, m_now, m_fns, m_heap, m_serial, m_stack, m_events, m_entered, m_coll, m_used, m_room, m_next, m_cells, m_len, m_lenH, m_noA, m_noH, m_setNow, m_setSer, m_setUsed, m_setNext, m_set2, m_set3, m_set4, m_set5, hs, hn, h, fm1]
theorem s_prim_of (hn : q.now = .tup [.str "value", .int (2 * j + 1)]) (hs : q.stack = st ++ [.tup [.str "prim", .str s, .int i]]) (hr : isCmp s = true → q.used + 1 ≤ q.room)
    (h : ∀ n A, sem (n + 9) .Machine_meet_second [.obj A.length, .str s, .int i, .int j] (mst A { q with stack := st }) = .ok .non (mst A q')) : Stp q q' :=
  s_meet hn hs (fun n A => x_msize_prim hs hn) (by cases hc : isCmp s with
    | true => exact .inr ⟨by simp, by simpa using hr hc⟩
    | false => exact .inl (by simp)) fun n A => by
    have e : sem (n + 10) .Machine_meet_number [.obj A.length, .int j, .tup [.str "prim", .str s, .int i]] (mst A { q with stack := st }) = .ok .non (mst A q') := by
      rw [sem_Machine_meet_number]; unfold b_Machine_meet_number; simp?! [m_g0, m_g1, m_g2, m_g3, m_g4, m_g5, m_g6, m_now, m_fns, m_heap, m_serial, m_stack, m_events, m_entered, m_coll, m_used, m_room, m_next, m_cells, m_len, m_lenH, m_noA, m_noH, m_setNow, m_setSer, m_setUsed, m_setNext, m_set2, m_set3, m_set4, m_set5, h]
    rw [sem_Machine_meet]; unfold b_Machine_meet; simp?! [m_g0, m_g1, m_g2, m_g3, m_g4, m_g5, m_g6, m_now, m_fns, m_heap, m_serial, m_stack, m_events, m_entered, m_coll, m_used, m_room, m_next, m_cells, m_len, m_lenH, m_noA, m_noH, m_setNow, m_setSer, m_setUsed, m_setNext, m_set2, m_set3, m_set4, m_set5, fm1, fd1, e]
theorem s_pcmp (hn : q.now = .tup [.str "value", .int (2 * j + 1)]) (hs : q.stack = st ++ [.tup [.str "prim", .str s, .int i]]) (hc : isCmp s = true) (hv : ∀ n S, sem (n + 2) .compared [.str s, .int i, .int j] S = .ok (.int v) S) (hr : q.used + 1 ≤ q.room) (hl : q.cells.length < 16777216) :
    Stp q { q with stack := st, now := .tup [.str "value", .int (2 * q.next)], cells := putKD q.cells (.inl q.next) (.tup [.str "con", .int v, .tup []]), used := q.used + 1, next := q.next + 1 } :=
  s_prim_of hn hs (fun _ => hr) fun n A => x_pr_cmp (q := { q with stack := st }) hc hv hl
theorem s_pzero (hn : q.now = .tup [.str "value", .int (2 * 0 + 1)]) (hs : q.stack = st ++ [.tup [.str "prim", .str s, .int i]]) (hd : isDM s = true) (hl : q.ev.length < 16777216) :
    Stp q { q with stack := st, now := .tup [.str "fault", .str "division by zero"], ev := q.ev ++ [.tup [.str "fault", .str "division by zero"]] } := by
  have hc : isCmp s = false := by
    unfold isDM at hd
    simp only [Bool.or_eq_true, beq_iff_eq] at hd
    rcases hd with rfl | rfl <;> decide
  refine s_prim_of hn hs (fun h => by rw [hc] at h; cases h) fun n A => ?_
  rw [sem_Machine_meet_second]; unfold b_Machine_meet_second
  rw [cmpD] at hc; rw [dmD] at hd
  simp?! [m_g0, m_g1, m_g2, m_g3, m_g4, m_g5, m_g6, m_now, m_fns, m_heap, m_serial, m_stack, m_events, m_entered, m_coll, m_used, m_room, m_next, m_cells, m_len, m_lenH, m_noA, m_noH, m_setNow, m_setSer, m_setUsed, m_setNext, m_set2, m_set3, m_set4, m_set5, hc, hd, x_fault, hl]
theorem s_arith (hn : q.now = .tup [.str "value", .int (2 * j + 1)]) (hs : q.stack = st ++ [.tup [.str "prim", .str s, .int i]]) (hc : isCmp s = false) (hd : isDM s = true → j ≠ 0) (ha : ∀ n S, sem (n + 2) .arithmetic [.str s, .int i, .int j] S = .ok (.int v) S) (hv : ¬ 1000000000000000 < (if v < 0 then -v else v)) :
    Stp q { q with stack := st, now := .tup [.str "value", .int (2 * v + 1)] } := by
  refine s_prim_of hn hs (fun h => by rw [hc] at h; cases h) fun n A => ?_
  rw [sem_Machine_meet_second]; unfold b_Machine_meet_second
  rw [cmpD] at hc; rw [dmD] at hd
  by_cases h0 : j = 0
  · have hd' : (decide ("div" = s) || decide ("mod" = s)) = false := by
      cases h : (decide ("div" = s) || decide ("mod" = s)) with
      | false => rfl
      | true => exact absurd h0 (hd h)
    simp?! [m_g0, m_g1, m_g2, m_g3, m_g4, m_g5, m_g6, m_now, m_fns, m_heap, m_serial, m_stack, m_events, m_entered, m_coll, m_used, m_room, m_next, m_cells, m_len, m_lenH, m_noA, m_noH, m_setNow, m_setSer, m_setUsed, m_setNext, m_set2, m_set3, m_set4, m_set5, hc, hd', h0, ha, oGt, K_LARGEST, hv]
    subst h0
    simp?! [m_g0, m_g1, m_g2, m_g3, m_g4, m_g5, m_g6, m_now, m_fns, m_heap, m_serial, m_stack, m_events, m_entered, m_coll, m_used, m_room, m_next, m_cells, m_len, m_lenH, m_noA, m_noH, m_setNow, m_setSer, m_setUsed, m_setNext, m_set2, m_set3, m_set4, m_set5, hc, hd', ha, oGt, K_LARGEST, hv]
  · simp?! [m_g0, m_g1, m_g2, m_g3, m_g4, m_g5, m_g6, m_now, m_fns, m_heap, m_serial, m_stack, m_events, m_entered, m_coll, m_used, m_room, m_next, m_cells, m_len, m_lenH, m_noA, m_noH, m_setNow, m_setSer, m_setUsed, m_setNext, m_set2, m_set3, m_set4, m_set5, hc, h0, ha, oGt, K_LARGEST, hv]
theorem s_over (hn : q.now = .tup [.str "value", .int (2 * j + 1)]) (hs : q.stack = st ++ [.tup [.str "prim", .str s, .int i]]) (hc : isCmp s = false) (hd : isDM s = true → j ≠ 0) (ha : ∀ n S, sem (n + 2) .arithmetic [.str s, .int i, .int j] S = .ok (.int v) S) (hv : 1000000000000000 < (if v < 0 then -v else v)) (hl : q.ev.length < 16777216) :
    Stp q { q with stack := st, now := .tup [.str "fault", .str "overflow"], ev := q.ev ++ [.tup [.str "fault", .str "overflow"]] } := by
  refine s_prim_of hn hs (fun h => by rw [hc] at h; cases h) fun n A => ?_
  rw [sem_Machine_meet_second]; unfold b_Machine_meet_second
  rw [cmpD] at hc; rw [dmD] at hd
  by_cases h0 : j = 0
  · have hd' : (decide ("div" = s) || decide ("mod" = s)) = false := by
      cases h : (decide ("div" = s) || decide ("mod" = s)) with
      | false => rfl
      | true => exact absurd h0 (hd h)
    subst h0
    simp?! [m_g0, m_g1, m_g2, m_g3, m_g4, m_g5, m_g6, m_now, m_fns, m_heap, m_serial, m_stack, m_events, m_entered, m_coll, m_used, m_room, m_next, m_cells, m_len, m_lenH, m_noA, m_noH, m_setNow, m_setSer, m_setUsed, m_setNext, m_set2, m_set3, m_set4, m_set5, hc, hd', ha, oGt, K_LARGEST, hv, x_fault, hl]
  · simp?! [m_g0, m_g1, m_g2, m_g3, m_g4, m_g5, m_g6, m_now, m_fns, m_heap, m_serial, m_stack, m_events, m_entered, m_coll, m_used, m_room, m_next, m_cells, m_len, m_lenH, m_noA, m_noH, m_setNow, m_setSer, m_setUsed, m_setNext, m_set2, m_set3, m_set4, m_set5, hc, h0, ha, oGt, K_LARGEST, hv, x_fault, hl]
/-! what is made -/
theorem s_box_of (hn : q.now = .tup [.str "value", .int (2 * a)]) (hs : q.stack = st ++ [.tup (.str k :: l)]) (hk : k ≠ "prim" ∧ k ≠ "apply" ∧ k ≠ "update" ∧ k ≠ "seq") (hc : getK q.cells (.inl a) = some (.tup (.str "con" :: fs)))
    (h : ∀ n A, sem (n + 10) .Machine_meet_constructor [.obj A.length, .int (2 * a), .tup (.str "con" :: fs), .tup (.str k :: l)] (mst A { q with stack := st }) = .ok .non (mst A q')) : Stp q q' :=
  s_meet hn hs (fun n A => x_msize0 hs hn ⟨hk.1, hk.2.1⟩) (.inl rfl) fun n A => by
    have e := x_hcell (n := n + 8) (A := A) (q := { q with stack := st }) hc
    rw [sem_Machine_meet]; unfold b_Machine_meet; simp?! [m_g0, m_g1, m_g2, m_g3, m_g4, m_g5, m_g6, m_now, m_fns, m_heap, m_serial, m_stack, m_events, m_entered, m_coll, m_used, m_room, m_next, m_cells, m_len, m_lenH, m_noA, m_noH, m_setNow, m_setSer, m_setUsed, m_setNext, m_set2, m_set3, m_set4, m_set5, fm0, fd0, e, h, hk.1, hk.2.1, hk.2.2.1, hk.2.2.2]
theorem s_end (hn : q.now = .tup [.str "value", .int (2 * a)]) (hs : q.stack = st ++ [.tup [.str "show"]]) (hc : getK q.cells (.inl a) = some (.tup [.str "con", .int 0, x])) (hl : q.ev.length < 16777216) :
    Stp q { q with stack := st, now := .tup [.str "end"], ev := q.ev ++ [.tup [.str "end"]] } :=
  s_box_of hn hs (by simp?! []) hc fun n A => by
    rw [sem_Machine_meet_constructor]; unfold b_Machine_meet_constructor; simp?! [m_g0, m_g1, m_g2, m_g3, m_g4, m_g5, m_g6, m_now, m_fns, m_heap, m_serial, m_stack, m_events, m_entered, m_coll, m_used, m_room, m_next, m_cells, m_len, m_lenH, m_noA, m_noH, m_setNow, m_setSer, m_setUsed, m_setNext, m_set2, m_set3, m_set4, m_set5, hl]
theorem s_cons (hn : q.now = .tup [.str "value", .int (2 * a)]) (hs : q.stack = st ++ [.tup [.str "show"]]) (hc : getK q.cells (.inl a) = some (.tup [.str "con", .int 1, .tup [x, y]])) (hl : st.length < 16777216) :
    Stp q { q with stack := st ++ [.tup [.str "head", y]], now := .tup [.str "enter", x] } :=
  s_box_of hn hs (by simp?! []) hc fun n A => by
    rw [sem_Machine_meet_constructor]; unfold b_Machine_meet_constructor; simp?! [m_g0, m_g1, m_g2, m_g3, m_g4, m_g5, m_g6, m_now, m_fns, m_heap, m_serial, m_stack, m_events, m_entered, m_coll, m_used, m_room, m_next, m_cells, m_len, m_lenH, m_noA, m_noH, m_setNow, m_setSer, m_setUsed, m_setNext, m_set2, m_set3, m_set4, m_set5, hl]
theorem s_case_hit (hn : q.now = .tup [.str "value", .int (2 * a)]) (hs : q.stack = st ++ [.tup [.str "case", rows, dflt, .tup fs]]) (hc : getK q.cells (.inl a) = some (.tup [.str "con", tag, .tup ws])) (hh : ∀ n S, sem (n + 2) .chosen_case [.tup [.str "con", tag, .tup ws], rows] S = .ok body S) (hb : isNon body = false) (hl : fs.length + ws.length ≤ 16777216) :
    Stp q { q with stack := st, now := .tup [.str "eval", body, .tup (fs ++ ws)] } :=
  s_box_of hn hs (by simp?! []) hc fun n A => by
    rw [sem_Machine_meet_constructor]; unfold b_Machine_meet_constructor; simp?! [m_g0, m_g1, m_g2, m_g3, m_g4, m_g5, m_g6, m_now, m_fns, m_heap, m_serial, m_stack, m_events, m_entered, m_coll, m_used, m_room, m_next, m_cells, m_len, m_lenH, m_noA, m_noH, m_setNow, m_setSer, m_setUsed, m_setNext, m_set2, m_set3, m_set4, m_set5, hh, hb, hl]
theorem s_case_miss (hn : q.now = .tup [.str "value", .int (2 * a)]) (hs : q.stack = st ++ [.tup [.str "case", rows, .non, .tup fs]]) (hc : getK q.cells (.inl a) = some (.tup [.str "con", tag, .tup ws])) (hh : ∀ n S, sem (n + 2) .chosen_case [.tup [.str "con", tag, .tup ws], rows] S = .ok .non S) (hl : q.ev.length < 16777216) :
    Stp q { q with stack := st, now := .tup [.str "fault", .str "no match"], ev := q.ev ++ [.tup [.str "fault", .str "no match"]] } :=
  s_box_of hn hs (by simp?! []) hc fun n A => by
    rw [sem_Machine_meet_constructor]; unfold b_Machine_meet_constructor; simp?! [m_g0, m_g1, m_g2, m_g3, m_g4, m_g5, m_g6, m_now, m_fns, m_heap, m_serial, m_stack, m_events, m_entered, m_coll, m_used, m_room, m_next, m_cells, m_len, m_lenH, m_noA, m_noH, m_setNow, m_setSer, m_setUsed, m_setNext, m_set2, m_set3, m_set4, m_set5, hh, x_default0, hl]
theorem s_case_dflt (hn : q.now = .tup [.str "value", .int (2 * a)]) (hs : q.stack = st ++ [.tup [.str "case", rows, dflt, .tup fs]]) (hc : getK q.cells (.inl a) = some (.tup [.str "con", tag, .tup ws])) (hh : ∀ n S, sem (n + 2) .chosen_case [.tup [.str "con", tag, .tup ws], rows] S = .ok .non S) (hb : isNon dflt = false) (hl : fs.length + 1 ≤ 16777216) :
    Stp q { q with stack := st, now := .tup [.str "eval", dflt, .tup (fs ++ [.int (2 * a)])] } :=
  s_box_of hn hs (by simp?! []) hc fun n A => by
    rw [sem_Machine_meet_constructor]; unfold b_Machine_meet_constructor; simp?! [m_g0, m_g1, m_g2, m_g3, m_g4, m_g5, m_g6, m_now, m_fns, m_heap, m_serial, m_stack, m_events, m_entered, m_coll, m_used, m_room, m_next, m_cells, m_len, m_lenH, m_noA, m_noH, m_setNow, m_setSer, m_setUsed, m_setNext, m_set2, m_set3, m_set4, m_set5, hh, x_default1 hb hl]
theorem s_pick_hit (hn : q.now = .tup [.str "value", .int (2 * v + 1)]) (hs : q.stack = st ++ [.tup [.str "pick", rows, dflt, .tup fs]]) (hh : ∀ n S, sem (n + 2) .chosen_pick [.int v, rows] S = .ok body S) (hb : isNon body = false) :
    Stp q { q with stack := st, now := .tup [.str "eval", body, .tup fs] } :=
  s_meet hn hs (fun n A => x_msize0 hs hn (by simp?! [])) (.inl rfl) fun n A => by
    have e : sem (n + 10) .Machine_meet_number [.obj A.length, .int v, .tup [.str "pick", rows, dflt, .tup fs]] (mst A { q with stack := st }) = .ok .non (mst A { q with stack := st, now := .tup [.str "eval", body, .tup fs] }) := by
      rw [sem_Machine_meet_number]; unfold b_Machine_meet_number; simp?! [m_g0, m_g1, m_g2, m_g3, m_g4, m_g5, m_g6, m_now, m_fns, m_heap, m_serial, m_stack, m_events, m_entered, m_coll, m_used, m_room, m_next, m_cells, m_len, m_lenH, m_noA, m_noH, m_setNow, m_setSer, m_setUsed, m_setNext, m_set2, m_set3, m_set4, m_set5, hh, hb]
    rw [sem_Machine_meet]; unfold b_Machine_meet; simp?! [m_g0, m_g1, m_g2, m_g3, m_g4, m_g5, m_g6, m_now, m_fns, m_heap, m_serial, m_stack, m_events, m_entered, m_coll, m_used, m_room, m_next, m_cells, m_len, m_lenH, m_noA, m_noH, m_setNow, m_setSer, m_setUsed, m_setNext, m_set2, m_set3, m_set4, m_set5, fm1, fd1, e]
theorem s_pick_miss (hn : q.now = .tup [.str "value", .int (2 * v + 1)]) (hs : q.stack = st ++ [.tup [.str "pick", rows, .non, .tup fs]]) (hh : ∀ n S, sem (n + 2) .chosen_pick [.int v, rows] S = .ok .non S) (hl : q.ev.length < 16777216) :
    Stp q { q with stack := st, now := .tup [.str "fault", .str "no match"], ev := q.ev ++ [.tup [.str "fault", .str "no match"]] } :=
  s_meet hn hs (fun n A => x_msize0 hs hn (by simp?! [])) (.inl rfl) fun n A => by
    have e : sem (n + 10) .Machine_meet_number [.obj A.length, .int v, .tup [.str "pick", rows, .non, .tup fs]] (mst A { q with stack := st }) = .ok .non (mst A { q with stack := st, now := .tup [.str "fault", .str "no match"], ev := q.ev ++ [.tup [.str "fault", .str "no match"]] }) := by
      rw [sem_Machine_meet_number]; unfold b_Machine_meet_number; simp?! [m_g0, m_g1, m_g2, m_g3, m_g4, m_g5, m_g6, m_now, m_fns, m_heap, m_serial, m_stack, m_events, m_entered, m_coll, m_used, m_room, m_next, m_cells, m_len, m_lenH, m_noA, m_noH, m_setNow, m_setSer, m_setUsed, m_setNext, m_set2, m_set3, m_set4, m_set5, hh, x_default0, hl]
    rw [sem_Machine_meet]; unfold b_Machine_meet; simp?! [m_g0, m_g1, m_g2, m_g3, m_g4, m_g5, m_g6, m_now, m_fns, m_heap, m_serial, m_stack, m_events, m_entered, m_coll, m_used, m_room, m_next, m_cells, m_len, m_lenH, m_noA, m_noH, m_setNow, m_setSer, m_setUsed, m_setNext, m_set2, m_set3, m_set4, m_set5, fm1, fd1, e]
theorem s_pick_dflt (hn : q.now = .tup [.str "value", .int (2 * v + 1)]) (hs : q.stack = st ++ [.tup [.str "pick", rows, dflt, .tup fs]]) (hh : ∀ n S, sem (n + 2) .chosen_pick [.int v, rows] S = .ok .non S) (hb : isNon dflt = false) (hl : fs.length + 1 ≤ 16777216) :
    Stp q { q with stack := st, now := .tup [.str "eval", dflt, .tup (fs ++ [.int (2 * v + 1)])] } :=
  s_meet hn hs (fun n A => x_msize0 hs hn (by simp?! [])) (.inl rfl) fun n A => by
    have e : sem (n + 10) .Machine_meet_number [.obj A.length, .int v, .tup [.str "pick", rows, dflt, .tup fs]] (mst A { q with stack := st }) = .ok .non (mst A { q with stack := st, now := .tup [.str "eval", dflt, .tup (fs ++ [.int (2 * v + 1)])] }) := by
      rw [sem_Machine_meet_number]; unfold b_Machine_meet_number; simp?! [m_g0, m_g1, m_g2, m_g3, m_g4, m_g5, m_g6, m_now, m_fns, m_heap, m_serial, m_stack, m_events, m_entered, m_coll, m_used, m_room, m_next, m_cells, m_len, m_lenH, m_noA, m_noH, m_setNow, m_setSer, m_setUsed, m_setNext, m_set2, m_set3, m_set4, m_set5, hh, x_default1 hb hl]
    rw [sem_Machine_meet]; unfold b_Machine_meet; simp?! [m_g0, m_g1, m_g2, m_g3, m_g4, m_g5, m_g6, m_now, m_fns, m_heap, m_serial, m_stack, m_events, m_entered, m_coll, m_used, m_room, m_next, m_cells, m_len, m_lenH, m_noA, m_noH, m_setNow, m_setSer, m_setUsed, m_setNext, m_set2, m_set3, m_set4, m_set5, fm1, fd1, e]
end Nk66

namespace Nk66
open PySem L2 Nd
variable {n : Nat} {A S : Store} {q q' : Q} {a b z w v t ser i j : Int} {c x y body fr frm op rows dflt : D} {ws st fs ms : List D} {tag v' r : D} {k : Str} {l : List D} {cells : List (Key × D)} {s : String}
theorem big {n : Nat} (h : n < 1000) : n < 16777216 := Nat.lt_of_lt_of_le h (by decide)
theorem bigE {n : Nat} (h : n < 1000) : n ≤ 16777216 := Nat.le_of_lt (big h)
theorem range_len {k : Nat} (h : k < 1000) : kRange [.int (k : Int)] S = .ok (rangeD 0 k, none) S := range_ok (by omega) (by omega)
/-! let -/
inductive MkM (fr2 : List D) : List D → Q → Q → Prop
  | nil {q : Q} : MkM fr2 [] q q
  | later {q q' : Q} {ms ws : List D} {ops body : D} (ho : ∀ n S, sem (n + 3) .operand_words [ops, .tup fr2] S = .ok (.tup ws) S) (hl : q.cells.length < 16777216)
      (r : MkM fr2 ms { q with cells := putKD q.cells (.inl q.next) (.tup [.str "later", body, .tup ws, .int q.serial]), used := q.used + lsz ws, next := q.next + 1, serial := q.serial + 1 } q') : MkM fr2 (.tup [.str "later", ops, body] :: ms) q q'
  | con {q q' : Q} {ms ws : List D} {tag ops : D} (ho : ∀ n S, sem (n + 3) .operand_words [ops, .tup fr2] S = .ok (.tup ws) S) (hl : q.cells.length < 16777216)
      (r : MkM fr2 ms { q with cells := putKD q.cells (.inl q.next) (.tup [.str "con", tag, .tup ws]), used := q.used + (1 + (ws.length : Int)), next := q.next + 1 } q') : MkM fr2 (.tup [.str "con", tag, ops] :: ms) q q'
  | part {q q' : Q} {ms ws : List D} {tag ops : D} (ho : ∀ n S, sem (n + 3) .operand_words [ops, .tup fr2] S = .ok (.tup ws) S) (hl : q.cells.length < 16777216)
      (r : MkM fr2 ms { q with cells := putKD q.cells (.inl q.next) (.tup [.str "part", tag, .tup ws]), used := q.used + (1 + (ws.length : Int)), next := q.next + 1 } q') : MkM fr2 (.tup [.str "part", tag, ops] :: ms) q q'
def mmB (F : Fi → Fn) : MS := (mIf (mBool (mOp2 oEq (mOp2 oIx (mVar 4) (mC (.int 0))) (mC (.str "later")))) (mSeq (mExpr (mMeth 1 "make" (F .Heap_make) (mOp1 (oFld 2 "heap") (mVar 0)) (mCons (mTup (mCons (mC (.str "later")) (mCons (mOp2 oIx (mVar 4) (mC (.int 2))) (mCons (mCall (F .operand_words) (mCons (mOp2 oIx (mVar 4) (mC (.int 1))) (mCons (mVar 2) mNil))) (mCons (mOp1 (oFld 2 "serial") (mVar 0)) mNil))))) mNil)))   (mAugF 2 "serial" (fun i j => i + j) (mVar 0) (mC (.int 1)))) (mExpr (mMeth 1 "make" (F .Heap_make) (mOp1 (oFld 2 "heap") (mVar 0)) (mCons (mTup (mCons (mOp2 oIx (mVar 4) (mC (.int 0))) (mCons (mOp2 oIx (mVar 4) (mC (.int 1))) (mCons (mCall (F .operand_words) (mCons (mOp2 oIx (mVar 4) (mC (.int 2))) (mCons (mVar 2) mNil))) mNil)))) mNil))))
theorem mk_loop {fr2 ms : List D} (h : MkM fr2 ms q q') : ∀ (a1 a3 a4 a5 : Option D), ∃ y, loopS (.nm 4) (mmB (sem (n + 7))) none ms [some (.obj A.length), a1, some (.tup fr2), a3, a4, a5] (mst A q) = .ok (.nx, [some (.obj A.length), a1, some (.tup fr2), a3, y, a5]) (mst A q') := by
  induction h with
  | nil => intro a1 a3 a4 a5; exact ⟨a4, by simp?! []⟩
  | @later q q' ms ws ops body ho hl r ih =>
    intro a1 a3 a4 a5
    obtain ⟨y, e⟩ := ih a1 a3 (some (.tup [.str "later", ops, body])) a5
    refine ⟨y, ?_⟩
    rw [← e]
    unfold mmB; simp?! [m_g0, m_g1, m_g2, m_g3, m_g4, m_g5, m_g6, m_now, m_fns, m_heap, m_serial, m_stack, m_events, m_entered, m_coll, m_used, m_room, m_next, m_cells, m_len, m_lenH, m_noA, m_noH, m_setNow, m_setSer, m_setUsed, m_setNext, m_set2, m_set3, m_set4, m_set5, ho, hl, x_hmake_later]
  | @con q q' ms ws tag ops ho hl r ih =>
    intro a1 a3 a4 a5
    obtain ⟨y, e⟩ := ih a1 a3 (some (.tup [.str "con", tag, ops])) a5
    refine ⟨y, ?_⟩
    rw [← e]
    unfold mmB; simp?! [m_g0, m_g1, m_g2, m_g3, m_g4, m_g5, m_g6, m_now, m_fns, m_heap, m_serial, m_stack, m_events, m_entered, m_coll, m_used, m_room, m_next, m_cells, m_len, m_lenH, m_noA, m_noH, m_setNow, m_setSer, m_setUsed, m_setNext, m_set2, m_set3, m_set4, m_set5, ho, hl, x_hmake_con]
  | @part q q' ms ws tag ops ho hl r ih =>
    intro a1 a3 a4 a5
    obtain ⟨y, e⟩ := ih a1 a3 (some (.tup [.str "part", tag, ops])) a5
    refine ⟨y, ?_⟩
    rw [← e]
    unfold mmB; simp?! [m_g0, m_g1, m_g2, m_g3, m_g4, m_g5, m_g6, m_now, m_fns, m_heap, m_serial, m_stack, m_events, m_entered, m_coll, m_used, m_room, m_next, m_cells, m_len, m_lenH, m_noA, m_noH, m_setNow, m_setSer, m_setUsed, m_setNext, m_set2, m_set3, m_set4, m_set5, ho, hl, x_hmake_part]
def newW (p : Int) (k : Nat) : List D := (List.range k).map fun (i : Nat) => .int (2 * (p + (i : Int)))
theorem x_words {p : Int} {k : Nat} {a0 a1 a2 a4 a5 : Option D} (hk : k ≤ 16777216) : loopC [5] (.nm 5) mYes (mOp2 oMul (mC (.int 2)) (mOp2 oAdd (mVar 3) (mVar 5))) none [a0, a1, a2, some (.int p), a4, a5] (rangeD 0 k) [] S = .ok (newW p k) S := by
  rw [loopC_pure (fun d => match d with | .int i => .int (2 * (p + i)) | _ => .non) (fun d => [a0, a1, a2, some (.int p), a4, some d]) _ _ (fun d hd => ?_) (by simp [rangeD]; exact hk)]
  · unfold newW rangeD
    rw [List.nil_append, List.map_map]
    congr 1
    apply List.map_congr_left
    intro i _
    simp
  · unfold rangeD at hd
    rw [List.mem_map] at hd
    obtain ⟨i, _, rfl⟩ := hd
    refine ⟨by simp?! [], by simp?! [], by simp?! []⟩
theorem x_members {ms fs : List D} (h : MkM (fs ++ newW q.next ms.length) ms q q') (hl : fs.length + ms.length ≤ 16777216) (hm : ms.length < 1000) : sem (n + 9) .Machine_make_members [.obj A.length, .tup ms, .tup fs] (mst A q) = .ok (.tup (fs ++ newW q.next ms.length)) (mst A q') := by
  rw [sem_Machine_make_members]; unfold b_Machine_make_members
  have hw : (newW q.next ms.length).length = ms.length := by unfold newW; simp
  have hr : ∀ S, kRange [.int (ms.length : Int)] S = .ok (rangeD 0 ms.length, none) S := fun S => range_len hm
  obtain ⟨y, e⟩ := mk_loop (n := n + 1) (A := A) h (some (.tup ms)) (some (.int q.next)) none none
  unfold mmB at e
  have hl' : fs.length + (newW q.next ms.length).length ≤ 16777216 := by rw [hw]; exact hl
  simp?! [m_g0, m_g1, m_g2, m_g3, m_g4, m_g5, m_g6, m_now, m_fns, m_heap, m_serial, m_stack, m_events, m_entered, m_coll, m_used, m_room, m_next, m_cells, m_len, m_lenH, m_noA, m_noH, m_setNow, m_setSer, m_setUsed, m_setNext, m_set2, m_set3, m_set4, m_set5, hr, x_words (bigE hm), hl', e]
theorem x_bsize_let {ms : List D} (dz : D → Int) (h : ∀ m, m ∈ ms → ∀ n S, sem (n + 2) .delayed_size [m] S = .ok (.int (dz m)) S) (hm : ms.length ≤ 16777216) : sem (n + 3) .body_size [.tup [.str "let", .tup ms, body]] S = .ok (.int (ms.map dz).sum) S := by
  have hi : ∀ l : List Int, intsD (l.map D.int) = some l := fun l => by
    induction l with
    | nil => rfl
    | cons i l ih => show (intsD (l.map D.int)).map (i :: ·) = _; rw [ih]; rfl
  have e : loopC [1] (.nm 1) mYes (mCall (sem (n + 2) .delayed_size) (mCons (mVar 1) mNil)) none [some (.tup [.str "let", .tup ms, body]), none] ms [] S = .ok ((ms.map dz).map D.int) S := by
    rw [loopC_pure (fun d => .int (dz d)) (fun d => [some (.tup [.str "let", .tup ms, body]), some d]) _ _ (fun d hd => ?_) (by simpa using hm)]
    · simp
    · refine ⟨by simp?! [], by simp?! [], by simp?! [h d hd]⟩
  rw [sem_body_size]; unfold b_body_size
  simp?! [e, oSumL, hi]
theorem x_dsize_later {ops : List D} : sem (n + 2) .delayed_size [.tup [.str "later", .tup ops, x]] S = .ok (.int (lsz ops)) S := by
  rw [sem_delayed_size]; unfold b_delayed_size lsz; simp?! []
theorem s_let {ms fs : List D} (dz : D → Int) (hn : q.now = .tup [.str "eval", .tup [.str "let", .tup ms, body], .tup fs]) (hd : ∀ m, m ∈ ms → ∀ n S, sem (n + 2) .delayed_size [m] S = .ok (.int (dz m)) S) (hm : ms.length < 1000) (hl : fs.length + ms.length ≤ 16777216)
    (hr : (ms.map dz).sum = 0 ∨ (0 < (ms.map dz).sum ∧ q.used + (ms.map dz).sum ≤ q.room)) (h : MkM (fs ++ newW q.next ms.length) ms q q') : Stp q { q' with now := .tup [.str "eval", body, .tup (fs ++ newW q.next ms.length)] } :=
  s_eval hn (fun n S => x_bsize_let dz hd (bigE hm)) hr fun n A => by
    rw [sem_Machine_evaluate]; unfold b_Machine_evaluate; simp?! [m_g0, m_g1, m_g2, m_g3, m_g4, m_g5, m_g6, m_now, m_fns, m_heap, m_serial, m_stack, m_events, m_entered, m_coll, m_used, m_room, m_next, m_cells, m_len, m_lenH, m_noA, m_noH, m_setNow, m_setSer, m_setUsed, m_setNext, m_set2, m_set3, m_set4, m_set5, x_members h hl hm]
end Nk66

namespace Nk66
open PySem L2 Nd
variable {n : Nat} {A S : Store} {q q' : Q} {a b z w v t ser i j : Int} {c x y body fr frm op rows dflt : D} {ws st fs ms : List D} {tag v' r : D} {k : Str} {l : List D} {cells : List (Key × D)} {s : String}
/-! the start -/
def pst (A : Store) (F : List (Str × D)) (room used next : Int) (cells : List (Key × D)) : Store := A ++ [.ins 2 F, .ins 1 [("room", .int room), ("used", .int used), ("next_address", .int next), ("_cells", .obj (A.length + 2))], .dct cells]
variable {F : List (Str × D)} {room used next : Int}
theorem p_make (hs : ∀ S, sem (n + 2) .size_of [c] S = .ok (.int z) S) (hl : cells.length < 16777216) : sem (n + 3) .Heap_make [.obj (A.length + 1), c] (pst A F room used next cells) = .ok (.int next) (pst A F room (used + z) (next + 1) (putKD cells (.inl next) c)) := by
  rw [sem_Heap_make]; unfold b_Heap_make pst; simp?! [hs, hl]
theorem p_later (hl : cells.length < 16777216) : sem (n + 3) .Heap_make [.obj (A.length + 1), .tup [.str "later", body, .tup [], x]] (pst A F room used next cells) = .ok (.int next) (pst A F room (used + 2) (next + 1) (putKD cells (.inl next) (.tup [.str "later", body, .tup [], x]))) :=
  p_make (fun _ => by rw [x_size_later]; rfl) hl
theorem p_part (hl : cells.length < 16777216) : sem (n + 3) .Heap_make [.obj (A.length + 1), .tup [.str "part", x, .tup []]] (pst A F room used next cells) = .ok (.int next) (pst A F room (used + 1) (next + 1) (putKD cells (.inl next) (.tup [.str "part", x, .tup []]))) :=
  p_make (fun _ => by rw [x_size_part]; rfl) hl
def fnD (f : Int × D) : D := .tup [.int f.1, f.2]
def gcell (i : Nat) (f : Int × D) : D := if f.1 = 0 then .tup [.str "later", f.2, .tup [], .int (i : Nat)] else .tup [.str "part", .int (i : Nat), .tup []]
def gsz (f : Int × D) : Int := if f.1 = 0 then 2 else 1
def gcells : Nat → List (Int × D) → List (Key × D) → List (Key × D)
  | _, [], cells => cells
  | i, f :: fl, cells => gcells (i + 1) fl (putKD cells (.inl (i : Nat)) (gcell i f))
def gused : List (Int × D) → Int → Int
  | [], u => u
  | f :: fl, u => gused fl (u + gsz f)
theorem putKD_len {α : Type} {l : List (Key × α)} {k : Key} {x : α} : (putKD l k x).length ≤ l.length + 1 := by
  unfold putKD; split <;> simp
def inB (F : Fi → Fn) : MS := (mIf (mBool (mOp2 oEq (mVar 4) (mC (.int 0)))) (mExpr (mMeth 1 "make" (F .Heap_make) (mOp1 (oFld 2 "heap") (mVar 0)) (mCons (mTup (mCons (mC (.str "later")) (mCons (mVar 5) (mCons (mTup mNil) (mCons (mVar 3) mNil))))) mNil))) (mExpr (mMeth 1 "make" (F .Heap_make) (mOp1 (oFld 2 "heap") (mVar 0)) (mCons (mTup (mCons (mC (.str "part")) (mCons (mVar 3) (mCons (mTup mNil) mNil)))) mNil))))
theorem m_pins : insAt 2 (.obj A.length) (pst A F room used next cells) = some F := by unfold pst; simp?! []
theorem m_pg1 : (pst A F room used next cells)[A.length + 1]? = some (.ins 1 [("room", .int room), ("used", .int used), ("next_address", .int next), ("_cells", .obj (A.length + 2))]) := by unfold pst; simp?! []
theorem m_pg0 : (pst A F room used next cells)[A.length]? = some (.ins 2 F) := by unfold pst; simp?! []
theorem init_loop : ∀ (fl : List (Int × D)) (i : Nat) (used : Int) (cells : List (Key × D)) (e1 e2 y3 y4 y5 : Option D), cells.length + fl.length < 1000 →
    ∃ z3 z4 z5, loopS (.tp [(.nm 3), (.tp [(.nm 4), (.nm 5)])]) (inB (sem (n + 9))) none (enumD i (fl.map fnD)) [some (.obj A.length), e1, e2, y3, y4, y5] (pst A [("functions", x), ("heap", .obj (A.length + 1))] room used (i : Nat) cells) =
      .ok (.nx, [some (.obj A.length), e1, e2, z3, z4, z5]) (pst A [("functions", x), ("heap", .obj (A.length + 1))] room (gused fl used) ((i + fl.length : Nat)) (gcells i fl cells))
  | [], i, used, cells, e1, e2, y3, y4, y5, _ => ⟨y3, y4, y5, by simp?! [enumD, gused, gcells]⟩
  | f :: fl, i, used, cells, e1, e2, y3, y4, y5, h => by
    rw [List.length_cons] at h
    have hl : cells.length < 16777216 := big (by omega)
    obtain ⟨z3, z4, z5, e⟩ := init_loop fl (i + 1) (used + gsz f) (putKD cells (.inl (i : Nat)) (gcell i f)) e1 e2 (some (.int (i : Nat))) (some (.int f.1)) (some f.2) (Nat.lt_of_le_of_lt (Nat.add_le_add_right putKD_len _) (by omega))
    refine ⟨z3, z4, z5, ?_⟩
    have e2 : i + (f :: fl).length = i + 1 + fl.length := by simp; omega
    rw [e2]
    unfold gused gcells
    rw [← e]
    rw [show ((i + 1 : Nat) : Int) = (i : Int) + 1 by omega]
    by_cases h0 : f.1 = 0
    · unfold inB gcell gsz fnD; simp?! [enumD, h0, m_pins, m_pg0, m_pg1, p_later, hl]
    · unfold inB gcell gsz fnD; simp?! [enumD, h0, m_pins, m_pg0, m_pg1, p_part, hl]
theorem x_hinit : sem (n + 2) .Heap_init [.obj (A.length + 1), .int room] (A ++ [.ins 2 F, .ins 1 []]) = .ok .non (pst A F room 0 0 []) := by
  rw [sem_Heap_init]; unfold b_Heap_init pst; simp?! [List.append_assoc, List.length_append]
end Nk66

namespace Nk66
open PySem L2 Nd
variable {n : Nat} {A S : Store} {q q' : Q} {a b z w v t ser i j : Int} {c x y body fr frm op rows dflt : D} {ws st fs ms : List D} {tag v' r : D} {k : Str} {l : List D} {cells : List (Key × D)} {s : String}
variable {F : List (Str × D)} {room used next : Int}
def q0 (fl : List (Int × D)) (room main : Int) : Q := ⟨fl.map fnD, room, gused fl 0, fl.length, gcells 0 fl [], fl.length, [.tup [.str "show"]], .tup [.str "enter", .int (2 * main)], [], [], []⟩
theorem x_init {fl : List (Int × D)} {main : Int} (hf : fl.length < 1000) : sem (n + 10) .Machine_init [.obj A.length, .tup [.tup (fl.map fnD), .int main], .int room] (A ++ [.ins 2 []]) = .ok .non (mst A (q0 fl room main)) := by
  rw [sem_Machine_init]; unfold b_Machine_init
  obtain ⟨z3, z4, z5, e⟩ := init_loop (n := n) (A := A) (x := .tup (fl.map fnD)) (room := room) fl 0 0 [] (some (.tup [.tup (fl.map fnD), .int main])) (some (.int room)) none none none (by simpa using hf)
  unfold inB at e
  have h1 := x_hinit (n := n + 6) (A := A) (F := [("functions", .tup (fl.map fnD))]) (room := room)
  have hlen : (fl.map fnD).length = fl.length := by simp
  rw [Nat.zero_add] at e
  have e0 : ((0 : Nat) : Int) = 0 := rfl
  rw [e0] at e
  have hp : ∀ F' : List (Str × D), A ++ [.ins 2 F', .ins 1 [("room", .int room), ("used", .int 0), ("next_address", .int 0), ("_cells", .obj (A.length + 2))], .dct []] = pst A F' room 0 0 [] := fun _ => rfl
  unfold pst at h1 e
  simp?! [List.append_assoc, List.length_append, h1, e, hlen]
  unfold mst q0
  simp?! [List.append_assoc]
end Nk66

namespace Nk66
open PySem L2 Nd
variable {n : Nat} {A S : Store} {q q' : Q} {a b z w v t ser i j : Int} {c x y body fr frm op rows dflt : D} {ws st fs ms : List D} {tag v' r : D} {k : Str} {l : List D} {cells : List (Key × D)} {s : String}
def isEnd (s : String) : Bool := decide ("end" = s) || (decide ("fault" = s) || (decide ("loop" = s) || (decide ("full" = s) || decide ("stuck" = s))))
theorem x_stopped (hn : q.now = .tup (.str (Str.ofString s) :: l)) : sem (n + 2) .Machine_stopped [.obj A.length] (mst A q) = .ok (.bl (isEnd s)) (mst A q) := by
  rw [sem_Machine_stopped]; unfold b_Machine_stopped isEnd; simp?! [m_g0, m_g1, m_g2, m_g3, m_g4, m_g5, m_g6, m_now, m_fns, m_heap, m_serial, m_stack, m_events, m_entered, m_coll, m_used, m_room, m_next, m_cells, m_len, m_lenH, m_noA, m_noH, m_setNow, m_setSer, m_setUsed, m_setNext, m_set2, m_set3, m_set4, m_set5, hn, K_ENDS]
inductive Steps : Nat → Q → Q → Prop
  | refl {q : Q} : Steps 0 q q
  | step {k : Nat} {q q1 q2 : Q} {s : String} {l : List D} (hn : q.now = .tup (.str (Str.ofString s) :: l)) (hs : isEnd s = false) (hr : q1.rest = q.rest) (h : Stp q q1) (r : Steps k q1 q2) : Steps (k + 1) q q2
theorem Steps.trans {k m : Nat} {q1 q2 q3 : Q} (h : Steps k q1 q2) (h2 : Steps m q2 q3) : Steps (k + m) q1 q3 := by
  induction h with
  | refl => rw [Nat.zero_add]; exact h2
  | @step k q q1 q2 s l hn hs hr h r ih => rw [show k + 1 + m = (k + m) + 1 by omega]; exact .step hn hs hr h (ih h2)
theorem Steps.rest {k : Nat} {q1 q2 : Q} (h : Steps k q1 q2) : q2.rest = q1.rest := by
  induction h with
  | refl => rfl
  | step hn hs hr h r ih => rw [ih, hr]
theorem rangeD_succ {lo : Int} {N : Nat} : rangeD lo (N + 1) = .int lo :: rangeD (lo + 1) N := by
  unfold rangeD
  rw [List.range_succ_eq_map, List.map_cons, List.map_map]
  congr 1
  · simp
  · apply List.map_congr_left
    intro i _
    simp
    omega
noncomputable def rnB (F F1 : Fi → Fn) : MS := (mSeq (mIf (mTruth (mProp 2 (F1 .Machine_stopped) (mVar 4)) truD) mBrk mSkip) (mSeq (mIf (mBool (mOp2 (oIn false) (mVar 6) (mVar 5))) (mExpr (mMeth 2 "collect" (F .Machine_collect) (mVar 4) mNil)) mSkip) (mExpr (mMeth 2 "step" (F .Machine_step) (mVar 4) mNil))))
theorem run_loop {kvs : List (Key × D)} (hk : ∀ i : Int, getK kvs (.inl i) = none) {k : Nat} (h : Steps k q q') (hr : q.rest = [.dct kvs]) (hn : q'.now = .tup (.str (Str.ofString s) :: l)) (he : isEnd s = true) : ∀ (N : Nat) (lo : Int) (e0 e1 e2 e3 e6 e7 : Option D), k < N →
    ∃ y, loopS (.nm 6) (rnB (sem (n + 13)) (sem (n + 12))) none (rangeD lo N) [e0, e1, e2, e3, some (.obj A.length), some (.obj (A.length + 6)), e6, e7] (mst A q) = .ok (.nx, [e0, e1, e2, e3, some (.obj A.length), some (.obj (A.length + 6)), y, e7]) (mst A q') := by
  induction h with
  | @refl q =>
    intro N lo e0 e1 e2 e3 e6 e7 hN
    obtain ⟨N, rfl⟩ : ∃ M, N = M + 1 := ⟨N - 1, by omega⟩
    rw [rangeD_succ]
    refine ⟨some (.int lo), ?_⟩
    unfold rnB; simp?! [m_g0, m_g1, m_g2, m_g3, m_g4, m_g5, m_g6, m_now, m_fns, m_heap, m_serial, m_stack, m_events, m_entered, m_coll, m_used, m_room, m_next, m_cells, m_len, m_lenH, m_noA, m_noH, m_setNow, m_setSer, m_setUsed, m_setNext, m_set2, m_set3, m_set4, m_set5, x_stopped hn, he]
  | @step k q q1 q2 s1 l1 hn1 hs1 hr1 h r ih =>
    intro N lo e0 e1 e2 e3 e6 e7 hN
    obtain ⟨N, rfl⟩ : ∃ M, N = M + 1 := ⟨N - 1, by omega⟩
    rw [rangeD_succ]
    obtain ⟨y, e⟩ := ih (hr1.trans hr) hn N (lo + 1) e0 e1 e2 e3 (some (.int lo)) e7 (by omega)
    refine ⟨y, ?_⟩
    rw [← e]
    have h2 := h (n + 1) A
    unfold rnB; simp?! [m_g0, m_g1, m_g2, m_g3, m_g4, m_g5, m_g6, m_now, m_fns, m_heap, m_serial, m_stack, m_events, m_entered, m_coll, m_used, m_room, m_next, m_cells, m_len, m_lenH, m_noA, m_noH, m_setNow, m_setSer, m_setUsed, m_setNext, m_set2, m_set3, m_set4, m_set5, x_stopped hn1, hs1, hr, hk, h2, Option.isSome]
theorem m_low {p : Nat} {o : O} (h : A[p]? = some o) : (mst A q)[p]? = some o := by
  unfold mst
  rw [List.getElem?_append_left (List.getElem?_eq_some_iff.mp h).1]; exact h
theorem x_run {fl : List (Int × D)} {main room N : Int} {p k : Nat} (hp : A[p]? = some (.lst [])) (hf : fl.length < 1000) (h0 : 0 ≤ N) (h1 : N ≤ 1000000000) (hk : (k : Int) < N)
    (h : Steps k { q0 fl room main with rest := [.dct []] } q') (hn : q'.now = .tup (.str (Str.ofString s) :: l)) (he : isEnd s = true) :
    sem (n + 14) .run_code [.tup [.tup (fl.map fnD), .int main], .int room, .obj p, .int N] A = .ok (.tup [.tup q'.ev, q'.now, .int q'.en.length, .int 0]) (mst A q') := by
  rw [sem_run_code]; unfold b_run_code
  obtain ⟨y, e⟩ := run_loop (n := n) (A := A) (kvs := []) (fun _ => rfl) h rfl hn he N.toNat 0 (some (.tup [.tup (fl.map fnD), .int main])) (some (.int room)) (some (.obj p)) (some (.int N)) none none (by omega)
  have hm : ∀ q : Q, (mst A q).length = A.length + 6 + q.rest.length := fun q => by unfold mst; simp; omega
  have hm1 : ∀ q : Q, q.rest = [] → mst A q ++ [.dct []] = mst A { q with rest := [.dct []] } := fun q h => by unfold mst; rw [h]; simp
  have hr : ∀ S, kRange [.int N] S = .ok (rangeD 0 N.toNat, none) S := fun S => range_ok (by omega) (by omega)
  unfold rnB at e
  simp?! [m_g0, m_g1, m_g2, m_g3, m_g4, m_g5, m_g6, m_now, m_fns, m_heap, m_serial, m_stack, m_events, m_entered, m_coll, m_used, m_room, m_next, m_cells, m_len, m_lenH, m_noA, m_noH, m_setNow, m_setSer, m_setUsed, m_setNext, m_set2, m_set3, m_set4, m_set5, x_init hf, m_low hp, hm, hm1, hr, e, x_stopped hn, he, show (q0 fl room main).rest = [] from rfl, e_loopDc0n]
end Nk66

namespace Nk66
open PySem L2 Nd
theorem loopS_inv {t : Tg} {mb : MS} {ds : List D} (P : Nat → Nd.Env → Store → Prop) (hs : ∀ i d env S, ds[i]? = some d → P i env S → ∃ env1 env2 S2, Tg.asg t d env = some env1 ∧ mb env1 S = .ok (.nx, env2) S2 ∧ P (i + 1) env2 S2) {env : Nd.Env} {S : Store} (h0 : P 0 env S) :
    ∃ env' S', loopS t mb none ds env S = .ok (.nx, env') S' ∧ P ds.length env' S' := by
  have go : ∀ (es : List D) (i : Nat) (env : Nd.Env) (S : Store), (∀ j, es[j]? = ds[i + j]?) → i + es.length = ds.length → P i env S → ∃ env' S', loopS t mb none es env S = .ok (.nx, env') S' ∧ P ds.length env' S' := by
    intro es
    induction es with
    | nil => intro i env S _ h2 hp; exact ⟨env, S, e_loop0n, by rw [← h2]; exact hp⟩
    | cons d es ih =>
      intro i env S h1 h2 hp
      have hd : ds[i]? = some d := by have := h1 0; simpa using this.symm
      obtain ⟨env1, env2, S2, e1, e2, hp2⟩ := hs i d env S hd hp
      rw [List.length_cons] at h2
      obtain ⟨env', S', e3, hp3⟩ := ih (i + 1) env2 S2 (fun j => by have := h1 (j + 1); rw [List.getElem?_cons_succ] at this; rw [this]; congr 1; omega) (by omega) hp2
      exact ⟨env', S', by rw [e_loop1n, e1, e_kLoop1, e2, e_ok, e_loop2n]; exact e3, hp3⟩
  exact go ds 0 env S (fun j => by rw [Nat.zero_add]) (by omega) h0
def gd (d : D) : Prop := ∃ i : Int, d = .int i ∧ 0 ≤ i ∧ i < 997
theorem gd_mod (i : Int) : gd (.int (i.fmod 997)) := ⟨_, rfl, Int.fmod_nonneg_of_pos _ (by decide), Int.fmod_lt_of_pos _ (by decide)⟩
theorem gd_app {l : List D} {i : Int} (h : ∀ d ∈ l, gd d) : ∀ d ∈ l ++ [.int (i.fmod 997)], gd d := by
  intro d hd
  rcases List.mem_append.mp hd with h1 | h1
  · exact h d h1
  · rw [List.mem_singleton] at h1; subst h1; exact gd_mod i
variable {n : Nat} {S : Store}
theorem c_mul1 {i : Int} : oMul (.int i) (.int 48271) S = .ok (.int (i * 48271)) S := by rw [e_mul, if_pos (Or.inr (by decide))]
theorem c_mul2 {i : Int} : oMul (.int i) (.int 69621) S = .ok (.int (i * 69621)) S := by rw [e_mul, if_pos (Or.inr (by decide))]
theorem c_mul3 {i : Int} : oMul (.int i) (.int 16807) S = .ok (.int (i * 16807)) S := by rw [e_mul, if_pos (Or.inr (by decide))]
theorem c_mul4 {i : Int} : oMul (.int i) (.int 997) S = .ok (.int (i * 997)) S := by rw [e_mul, if_pos (Or.inr (by decide))]
theorem c_mul5 {i : Int} : oMul (.int i) (.int 97) S = .ok (.int (i * 97)) S := by rw [e_mul, if_pos (Or.inr (by decide))]
theorem c_mod1 {i : Int} : oMod (.int i) (.int 1000003) S = .ok (.int (i.fmod 1000003)) S := by rw [e_mod, if_pos (by decide)]
theorem c_mod2 {i : Int} : oMod (.int i) (.int 65537) S = .ok (.int (i.fmod 65537)) S := by rw [e_mod, if_pos (by decide)]
theorem c_mod3 {i : Int} : oMod (.int i) (.int 997) S = .ok (.int (i.fmod 997)) S := by rw [e_mod, if_pos (by decide)]
theorem c_mod4 {i : Int} : oMod (.int i) (.int 65521) S = .ok (.int (i.fmod 65521)) S := by rw [e_mod, if_pos (by decide)]
theorem c_div1 {i : Int} : oDiv (.int i) (.int 997) S = .ok (.int (i.fdiv 997)) S := by rw [e_div, if_pos (by decide)]
theorem c_pow18 : oPow (.int 10) (.int 18) S = .ok (.int 1000000000000000000) S := by rw [e_pow, if_pos (by decide)]; rfl
theorem c_pow15 : oPow (.int 10) (.int 15) S = .ok (.int 1000000000000000) S := by rw [e_pow, if_pos (by decide)]; rfl
theorem c_pow4 : oPow (.int 10) (.int 4) S = .ok (.int 10000) S := by rw [e_pow, if_pos (by decide)]; rfl
noncomputable def dB1 : MS := (mSeq (mSet 5 (mApp oAbs (mCons (mApp oInt (mCons (mOp2 oIx (mVar 0) (mVar 4)) mNil)) mNil))) (mSeq (mSet 3 (mOp2 oMod (mApp oInt (mCons (mOp2 oAdd (mOp2 oAdd (mOp2 oMul (mVar 3) (mC (.int 48271))) (mOp2 oMod (mVar 5) (mC (.int 1000003)))) (mVar 4)) mNil)) (mC (.int 65537)))) (mSeq (mSet 6 (mC (.int 0))) (mSeq (mIf (mBool (mOp2 oGe (mVar 5) (mOp2 oPow (mC (.int 10)) (mC (.int 18))))) (mSet 6 (mVar 5)) (mSeq (mExpr (mBM oAppend (mVar 2) (mCons (mOp2 oMod (mApp oInt (mCons (mVar 5) mNil)) (mC (.int 997))) mNil))) (mExpr (mBM oAppend (mVar 2) (mCons (mOp2 oMod (mOp2 oMod (mApp oInt (mCons (mOp2 oAdd (mOp2 oMul (mVar 3) (mC (.int 69621))) (mC (.int 5))) mNil)) (mC (.int 65521))) (mC (.int 997))) mNil))))) (mFor (mRange (mCons (mC (.int 60)) mNil)) (.nm 7) (mIf (mBool (mOp2 oGt (mVar 6) (mC (.int 0)))) (mSeq (mExpr (mBM oAppend (mVar 2) (mCons (mOp2 oMod (mApp oInt (mCons (mVar 6) mNil)) (mC (.int 997))) mNil))) (mSet 6 (mOp2 oDiv (mVar 6) (mC (.int 997))))) mSkip))))))
noncomputable def dB2 : MS := (mIf (mBool (mOp2 oGt (mVar 6) (mC (.int 0)))) (mSeq (mExpr (mBM oAppend (mVar 2) (mCons (mOp2 oMod (mApp oInt (mCons (mVar 6) mNil)) (mC (.int 997))) mNil))) (mSet 6 (mOp2 oDiv (mVar 6) (mC (.int 997))))) mSkip)
noncomputable def dB3 : MS := (mSeq (mSet 3 (mOp2 oMod (mApp oInt (mCons (mOp2 oAdd (mOp2 oAdd (mOp2 oMul (mVar 3) (mC (.int 16807))) (mVar 4)) (mC (.int 1))) mNil)) (mC (.int 65537)))) (mExpr (mBM oAppend (mVar 2) (mCons (mOp2 oMod (mApp oInt (mCons (mVar 3) mNil)) (mC (.int 997))) mNil))))
def dInv (scr : D) (k : Nat) (env : Nd.Env) (S : Store) : Prop := ∃ (m : Int) (L : List D) (x4 x5 x6 x7 : Option D), env = [some scr, some (.int 200), some (.obj 0), some (.int m), x4, x5, x6, x7] ∧ S = [.lst L] ∧ (∀ d ∈ L, gd d) ∧ L.length ≤ k
theorem d_in {scr : D} {m : Int} {x4 x5 x7 : Option D} {r : Int} {L : List D} {k : Nat} (hL : ∀ d ∈ L, gd d) (hk : L.length ≤ k) (hk2 : k < 10000) :
    ∃ env' S', loopS (.nm 7) dB2 none (rangeD 0 60) [some scr, some (.int 200), some (.obj 0), some (.int m), x4, x5, some (.int r), x7] [.lst L] = .ok (.nx, env') S' ∧ dInv scr (k + 60) env' S' := by
  obtain ⟨env', S', e, r', L', x7', h1, h2, h3, h4⟩ := loopS_inv (t := .nm 7) (mb := dB2) (ds := rangeD 0 60) (fun j env S => ∃ (r : Int) (L : List D) (x7 : Option D), env = [some scr, some (.int 200), some (.obj 0), some (.int m), x4, x5, some (.int r), x7] ∧ S = [.lst L] ∧ (∀ d ∈ L, gd d) ∧ L.length ≤ k + j)
    (fun j d env S hd ⟨r, L, x7, h1, h2, h3, h4⟩ => by
      have hj : j < 60 := by have := (List.getElem?_eq_some_iff.mp hd).1; simpa [rangeD] using this
      subst h1; subst h2
      have hl : L.length < 16777216 := Nat.lt_of_lt_of_le (show L.length < 11000 by omega) (by decide)
      refine ⟨[some scr, some (.int 200), some (.obj 0), some (.int m), x4, x5, some (.int r), some d], ?_⟩
      by_cases hr : 0 < r
      · refine ⟨[some scr, some (.int 200), some (.obj 0), some (.int m), x4, x5, some (.int (r.fdiv 997)), some d], [.lst (L ++ [.int (r.fmod 997)])], rfl, ?_, r.fdiv 997, L ++ [.int (r.fmod 997)], some d, rfl, rfl, gd_app h3, by simp; omega⟩
        unfold dB2; simp?! [oGt, hr, c_mod3, c_div1, hl]
      · refine ⟨[some scr, some (.int 200), some (.obj 0), some (.int m), x4, x5, some (.int r), some d], [.lst L], rfl, ?_, r, L, some d, rfl, rfl, h3, by omega⟩
        unfold dB2; simp?! [oGt, hr])
    ⟨r, L, x7, rfl, rfl, hL, by omega⟩
  refine ⟨env', S', e, m, L', x4, x5, some (.int r'), x7', h1, h2, h3, ?_⟩
  have : (rangeD 0 60).length = 60 := by simp [rangeD]
  rw [this] at h4
  exact h4
theorem d_out {ns : List Int} (hns : ns.length ≤ 63) : ∃ env' S', loopS (.nm 4) dB1 none (rangeD 0 ns.length) [some (.ro (ns.map D.int)), some (.int 200), some (.obj 0), some (.int 7), none, none, none, none] [.lst []] = .ok (.nx, env') S' ∧ dInv (.ro (ns.map D.int)) (64 * 63) env' S' := by
  obtain ⟨env', S', e, h⟩ := loopS_inv (t := .nm 4) (mb := dB1) (ds := rangeD 0 ns.length) (fun j env S => dInv (.ro (ns.map D.int)) (64 * j) env S)
    (fun j d env S hd ⟨m, L, x4, x5, x6, x7, h1, h2, h3, h4⟩ => by
      have hj : j < ns.length := by have := (List.getElem?_eq_some_iff.mp hd).1; simpa [rangeD] using this
      have hdv : d = .int (j : Int) := by
        have := (List.getElem?_eq_some_iff.mp hd).2
        simp [rangeD] at this
        exact this.symm
      subst h1; subst h2; subst hdv
      have hx : atI (ns.map D.int) (j : Int) = some (.int (ns[j])) := by rw [e_at]; simp [hj]
      have hl : L.length < 16777216 := Nat.lt_of_lt_of_le (show L.length < 11000 by omega) (by decide)
      have hl2 : L.length + 1 < 16777216 := Nat.lt_of_lt_of_le (show L.length + 1 < 11000 by omega) (by decide)
      have h60 : ∀ S, kRange [.int 60] S = .ok (rangeD 0 60, none) S := fun S => range_ok (by decide) (by decide)
      refine ⟨[some (.ro (ns.map D.int)), some (.int 200), some (.obj 0), some (.int m), some (.int (j : Int)), x5, x6, x7], ?_⟩
      generalize hc : (if ns[j] < 0 then -ns[j] else ns[j]) = cell
      by_cases hb : 1000000000000000000 ≤ cell
      · obtain ⟨env2, S2, e2, h5⟩ := d_in (scr := .ro (ns.map D.int)) (m := (m * 48271 + cell.fmod 1000003 + (j : Int)).fmod 65537) (x4 := some (.int (j : Int))) (x5 := some (.int cell)) (x7 := x7) (r := cell) (k := 64 * j) h3 h4 (by omega)
        refine ⟨env2, S2, rfl, ?_, ?_⟩
        · rw [← e2]
          unfold dB1 dB2; simp?! [hx, hc, hb, c_mul1, c_mod1, c_mod2, oGe, c_pow18, h60]
        · obtain ⟨m', L', y4, y5, y6, y7, g1, g2, g3, g4⟩ := h5
          exact ⟨m', L', y4, y5, y6, y7, g1, g2, g3, by omega⟩
      · obtain ⟨env2, S2, e2, h5⟩ := d_in (scr := .ro (ns.map D.int)) (m := (m * 48271 + cell.fmod 1000003 + (j : Int)).fmod 65537) (x4 := some (.int (j : Int))) (x5 := some (.int cell)) (x7 := x7) (r := 0) (k := 64 * j + 2)
          (L := L ++ [.int (cell.fmod 997)] ++ [.int (((((m * 48271 + cell.fmod 1000003 + (j : Int)).fmod 65537) * 69621 + 5).fmod 65521).fmod 997)]) (gd_app (gd_app h3)) (by simp; omega) (by omega)
        refine ⟨env2, S2, rfl, ?_, ?_⟩
        · rw [← e2]
          unfold dB1 dB2; simp?! [hx, hc, hb, c_mul1, c_mul2, c_mod1, c_mod2, c_mod3, c_mod4, oGe, c_pow18, h60, hl, hl2, List.length_append]
        · obtain ⟨m', L', y4, y5, y6, y7, g1, g2, g3, g4⟩ := h5
          exact ⟨m', L', y4, y5, y6, y7, g1, g2, g3, by omega⟩)
    ⟨7, [], none, none, none, none, rfl, rfl, by simp, by simp⟩
  refine ⟨env', S', e, ?_⟩
  obtain ⟨m', L', y4, y5, y6, y7, g1, g2, g3, g4⟩ := h
  have : (rangeD 0 ns.length).length = ns.length := by simp [rangeD]
  rw [this] at g4
  exact ⟨m', L', y4, y5, y6, y7, g1, g2, g3, by omega⟩
theorem d_end {scr : D} {env : Nd.Env} {S : Store} (h : dInv scr (64 * 63) env S) : ∃ env' S', loopS (.nm 4) dB3 none (rangeD 0 200) env S = .ok (.nx, env') S' ∧ dInv scr 5000 env' S' := by
  obtain ⟨env', S', e, h⟩ := loopS_inv (t := .nm 4) (mb := dB3) (ds := rangeD 0 200) (fun j env S => dInv scr (64 * 63 + j) env S)
    (fun j d env S hd ⟨m, L, x4, x5, x6, x7, h1, h2, h3, h4⟩ => by
      have hj : j < 200 := by have := (List.getElem?_eq_some_iff.mp hd).1; simpa [rangeD] using this
      have hdv : d = .int (j : Int) := by
        have := (List.getElem?_eq_some_iff.mp hd).2
        simp [rangeD] at this
        exact this.symm
      subst h1; subst h2; subst hdv
      have hl : L.length < 16777216 := Nat.lt_of_lt_of_le (show L.length < 11000 by omega) (by decide)
      refine ⟨[some scr, some (.int 200), some (.obj 0), some (.int m), some (.int (j : Int)), x5, x6, x7], [some scr, some (.int 200), some (.obj 0), some (.int ((m * 16807 + (j : Int) + 1).fmod 65537)), some (.int (j : Int)), x5, x6, x7], [.lst (L ++ [.int (((m * 16807 + (j : Int) + 1).fmod 65537).fmod 997)])], rfl, ?_, _, _, _, _, _, _, rfl, rfl, gd_app h3, by simp; omega⟩
      unfold dB3; simp?! [c_mul3, c_mod2, c_mod3, hl]) h
  refine ⟨env', S', e, ?_⟩
  obtain ⟨m', L', y4, y5, y6, y7, g1, g2, g3, g4⟩ := h
  have : (rangeD 0 200).length = 200 := by simp [rangeD]
  rw [this] at g4
  exact ⟨m', L', y4, y5, y6, y7, g1, g2, g3, by omega⟩
theorem x_draws {ns : List Int} (hns : ns.length ≤ 63) : ∃ X ds, (∀ d ∈ ds, gd d) ∧ sem (n + 2) .l_draws [.ro (ns.map D.int), .int 200] [] = .ok (.obj 1) [.lst X, .lst ds] := by
  obtain ⟨env1, S1, e1, h1⟩ := d_out hns
  obtain ⟨env2, S2, e2, h2⟩ := d_end h1
  obtain ⟨m, L, x4, x5, x6, x7, g1, g2, g3, g4⟩ := h2
  subst g1; subst g2
  obtain ⟨m1, L1, w4, w5, w6, w7, f1, f2, _, _⟩ := h1
  subst f1; subst f2
  refine ⟨L, cutD L none (some 200), fun d hd => g3 d ?_, ?_⟩
  · unfold cutD at hd
    exact List.mem_of_mem_drop (List.mem_of_mem_take hd)
  · have hr : ∀ S, kRange [.int (ns.length : Int)] S = .ok (rangeD 0 ns.length, none) S := fun S => range_len (by omega)
    have hr2 : ∀ S, kRange [.int 200] S = .ok (rangeD 0 200, none) S := fun S => range_ok (by decide) (by decide)
    have hsl : oSlice (.obj 0) none (some 200) [.lst L] = .ok (.obj 1) [.lst L, .lst (cutD L none (some 200))] := rfl
    rw [sem_l_draws]; unfold b_l_draws
    unfold dB1 at e1; unfold dB3 at e2
    simp?! [List.length_map, hr, e1, hr2, e2, hsl]
end Nk66

namespace Nk66
open PySem L2 Nd
variable {n : Nat} {S : Store} {o0 : O} {ds : List D} {t : Int} {R : Store} {l r : Int} {s : String}
def wst (o0 : O) (ds : List D) (t : Int) (R : Store) : Store := o0 :: .lst ds :: .dct [(.inr "draws", .obj 1), (.inr "at", .int t)] :: R
theorem getK_nil {κ α : Type} [DecidableEq κ] {k : κ} : getK ([] : List (κ × α)) k = none := rfl
theorem getK_cons {κ α : Type} [DecidableEq κ] {k k1 : κ} {x : α} {l : List (κ × α)} : getK ((k1, x) :: l) k = if k1 = k then some x else getK l k := by
  unfold getK
  rw [List.find?_cons]
  by_cases h : k1 = k <;> simp [h]
theorem w_putAt {j : Int} : putKD [((.inr "draws" : Key), D.obj 1), (.inr "at", .int t)] (.inr "at") (.int j) = [(.inr "draws", .obj 1), (.inr "at", .int j)] := by
  unfold putKD
  simp [ofString_inj]
theorem x_next {m : Int} (hg : ∀ d ∈ ds, gd d) (hm : 0 < m) (ht : 0 ≤ t) : ∃ r, sem (n + 2) .l_next [.obj 2, .int m] (wst o0 ds t R) = .ok (.int r) (wst o0 ds (t + 1) R) ∧ 0 ≤ r ∧ r < m := by
  have ha : getK [((.inr "draws" : Key), D.obj 1), (.inr "at", .int t)] (.inr "at") = some (.int t) := by simp [getK_cons, ofString_inj]
  have ha' : getK [((.inr "draws" : Key), D.obj 1), (.inr "at", .int (t + 1))] (.inr "at") = some (.int (t + 1)) := by simp [getK_cons, ofString_inj]
  have hd' : getK [((.inr "draws" : Key), D.obj 1), (.inr "at", .int (t + 1))] (.inr "draws") = some (.obj 1) := by simp [getK_cons, ofString_inj]
  rw [sem_l_next]; unfold b_l_next wst
  by_cases h : (ds.length : Int) < t + 1
  · exact ⟨0, by simp?! [ha, w_putAt, ha', hd', oGt, h], by omega, hm⟩
  · have hlt : t.toNat < ds.length := by omega
    obtain ⟨i, e, h1, h2⟩ := hg (ds[t.toNat]) (List.getElem_mem hlt)
    have hx : atI ds (t + 1 - 1) = some (.int i) := by
      rw [show t + 1 - 1 = (t.toNat : Int) by omega, e_at, List.getElem?_eq_getElem hlt, e]
    exact ⟨i.fmod m, by simp?! [ha, w_putAt, ha', hd', oGt, h, hx, e_mod, show ¬ m = 0 by omega], Int.fmod_nonneg_of_pos _ hm, Int.fmod_lt_of_pos _ hm⟩
def lm (x : Int) : Prop := -1000000000000000 ≤ x ∧ x ≤ 1000000000000000
theorem x_number (hg : ∀ d ∈ ds, gd d) (ht : 0 ≤ t) : ∃ x t', sem (n + 3) .l_number [.obj 2] (wst o0 ds t R) = .ok (.int x) (wst o0 ds t' R) ∧ 0 ≤ t' ∧ lm x := by
  obtain ⟨r, e1, h1, h2⟩ := x_next (n := n) (o0 := o0) (R := R) (m := 6) hg (by decide) ht
  rw [sem_l_number]; unfold b_l_number
  have ht1 : 0 ≤ t + 1 := by omega
  by_cases r0 : r = 0
  · obtain ⟨y, e2, h3, h4⟩ := x_next (n := n) (o0 := o0) (R := R) (m := 3) hg (by decide) ht1
    exact ⟨y - 1, t + 1 + 1, by simp?! [e1, r0, e2], by omega, by unfold lm; omega⟩
  by_cases r1 : r = 1
  · obtain ⟨y, e2, h3, h4⟩ := x_next (n := n) (o0 := o0) (R := R) (m := 30) hg (by decide) ht1
    exact ⟨1000000000000000 - y, t + 1 + 1, by subst r1; simp?! [e1, e2, c_pow15], by omega, by unfold lm; omega⟩
  by_cases r2 : r = 2
  · obtain ⟨y, e2, h3, h4⟩ := x_next (n := n) (o0 := o0) (R := R) (m := 30) hg (by decide) ht1
    exact ⟨y - 1000000000000000, t + 1 + 1, by subst r2; simp?! [e1, e2, c_pow15], by omega, by unfold lm; omega⟩
  by_cases r3 : r = 3
  · obtain ⟨y, e2, h3, h4⟩ := x_next (n := n) (o0 := o0) (R := R) (m := 997) hg (by decide) ht1
    obtain ⟨y', e3, h5, h6⟩ := x_next (n := n) (o0 := o0) (R := R) (m := 997) (t := t + 1 + 1) hg (by decide) (by omega)
    exact ⟨(y * 997 + y') * 97 - 40000000, t + 1 + 1 + 1, by subst r3; simp?! [e1, e2, e3, c_mul4, c_mul5], by omega, by unfold lm; omega⟩
  · obtain ⟨y, e2, h3, h4⟩ := x_next (n := n) (o0 := o0) (R := R) (m := 60) hg (by decide) ht1
    exact ⟨y - 30, t + 1 + 1, by simp?! [e1, r0, r1, r2, r3, e2], by omega, by unfold lm; omega⟩
def primD (s : String) (l r : Int) : D := .tup [.str "prim", .str s, .tup [.str "number", .int l], .tup [.str "number", .int r]]
def rowsD : D := .tup [.tup [.int 0, .int 0, .tup [.str "give", .tup [.str "number", .int 0]]], .tup [.int 1, .int 0, .tup [.str "give", .tup [.str "number", .int 1]]]]
def termD (s : String) (l r : Int) : D := if isCmp s = true then .tup [.str "case", primD s l r, rowsD, .non] else primD s l r
theorem x_term : sem (n + 2) .l_term [.str s, .int l, .int r] S = .ok (termD s l r) S := by
  rw [sem_l_term]; unfold b_l_term termD primD rowsD
  cases h : isCmp s with
  | true => rw [cmpD] at h; simp?! [h]
  | false => rw [cmpD] at h; simp?! [h]
inductive Out where
  | val (v : Int) | flt (m : String)
def Out.d : Out → D
  | .val v => .tup [.str "show", .int v]
  | .flt m => .tup [.str "fault", .str m]
def limO (v : Int) : Out := if 1000000000000000 < v ∨ v < -1000000000000000 then .flt "overflow" else .val v
def outc (s : String) (l r : Int) : Out :=
  if isDM s = true ∧ r = 0 then .flt "division by zero"
  else if s = "==" then .val (if l = r then 1 else 0)
  else if s = "<" then .val (if l < r then 1 else 0)
  else if s = "<=" then .val (if l ≤ r then 1 else 0)
  else if s = "div" then .val (l.fdiv r)
  else if s = "-" then limO (l - r)
  else if s = "*" then limO (l * r)
  else if s = "mod" then limO (l - r * l.fdiv r)
  else limO (l + r)
def sgn (s : String) : Prop := s = "+" ∨ s = "-" ∨ s = "*" ∨ s = "div" ∨ s = "mod" ∨ s = "==" ∨ s = "<" ∨ s = "<="
theorem lm_mul {x y : Int} {S : Store} (h : lm x) : oMul (.int x) (.int y) S = .ok (.int (x * y)) S := by
  rw [e_mul, if_pos (Or.inl (by unfold lm at h; omega))]
theorem lm_log {x : Int} (h : lm x) : x.natAbs.log2 < 9000 := by
  unfold lm at h
  have h1 : x.natAbs < 2 ^ 50 := by
    have : (2 : Nat) ^ 50 = 1125899906842624 := by decide
    omega
  by_cases h0 : x.natAbs = 0
  · rw [h0]; decide
  · have := (Nat.log2_lt h0).mpr h1
    omega
theorem lm_div {x y : Int} {S : Store} (h : lm y) (h0 : y ≠ 0) : oDiv (.int x) (.int y) S = .ok (.int (x.fdiv y)) S := by
  rw [e_div, if_pos ⟨h0, lm_log h⟩]
theorem x_result (hs : sgn s) (hl : lm l) (hr : lm r) : sem (n + 2) .l_result [.str s, .int l, .int r] S = .ok (outc s l r).d S := by
  rw [sem_l_result]; unfold b_l_result outc limO isDM
  rcases hs with rfl | rfl | rfl | rfl | rfl | rfl | rfl | rfl
  · by_cases h1 : 1000000000000000 < l + r <;> by_cases h2 : l + r < -1000000000000000 <;> simp?! [oGt, oLt, oLe, c_pow15, h1, h2] <;> simp [h1, h2, Out.d]
  · by_cases h1 : 1000000000000000 < l - r <;> by_cases h2 : l - r < -1000000000000000 <;> simp?! [oGt, oLt, oLe, c_pow15, h1, h2] <;> simp [h1, h2, Out.d]
  · by_cases h1 : 1000000000000000 < l * r <;> by_cases h2 : l * r < -1000000000000000 <;> simp?! [oGt, oLt, oLe, c_pow15, lm_mul hl, h1, h2] <;> simp [h1, h2, Out.d]
  · by_cases h0 : r = 0
    · subst h0; simp?! []; simp [Out.d]
    · simp?! [h0, lm_div hr h0]; simp [h0, Out.d]
  · by_cases h0 : r = 0
    · subst h0; simp?! []; simp [Out.d]
    · by_cases h1 : 1000000000000000 < l - r * l.fdiv r <;> by_cases h2 : l - r * l.fdiv r < -1000000000000000 <;> simp?! [oGt, oLt, oLe, c_pow15, lm_mul hr, h0, lm_div hr h0, h1, h2] <;> simp [h0, h1, h2, Out.d]
  · by_cases h : l = r <;> simp?! [h] <;> simp [h, Out.d]
  · by_cases h : l < r <;> simp?! [oLt, h] <;> simp [h, Out.d]
  · by_cases h : l ≤ r <;> simp?! [oLe, h] <;> simp [h, Out.d]
end Nk66

namespace Nk66
open PySem L2 Nd
variable {q : Q} {l r v i j : Int} {s : String} {st : List D} {x : D}
theorem x_opw_slotE {n : Nat} {S : Store} {fs : List D} {a : Int} : sem (n + 2) .operand_word [.tup [.str "slot", .int a], .tup fs] S = kOpt S (atI fs a) := by
  rw [sem_operand_word]; unfold b_operand_word
  cases h : atI fs a with
  | some x => simp?! [h]
  | none => simp?! [h]; rfl
theorem S1 {q q1 : Q} {s : String} {l : List D} (hn : q.now = .tup (.str (Str.ofString s) :: l)) (hs : isEnd s = false) (h : Stp q q1) (hr : q1.rest = q.rest := by rfl) : Steps 1 q q1 := .step hn hs hr h .refl
/-- the two numbers of a prim -/
theorem t_prim (hl : st.length < 1000) (hst : q.stack = st) (hn : q.now = .tup [.str "eval", primD s l r, .tup []]) : Steps 4 q { q with now := .tup [.str "value", .int (2 * r + 1)], stack := st ++ [.tup [.str "prim", .str s, .int l]] } := by
  have hl1 : st.length < 16777216 := big hl
  have a1 : Steps 1 q { q with now := .tup [.str "enter", .int (2 * l + 1)], stack := st ++ [.tup [.str "right", .str s, .tup [.str "number", .int r], .tup []]] } := by
    have h := s_prim (q := q) (y := .str s) (op := .tup [.str "number", .int l]) (c := .tup [.str "number", .int r]) (frm := .tup []) (x := .int (2 * l + 1)) hn (fun n S => x_opw_num) (by rw [hst]; exact hl1)
    rw [hst] at h
    exact S1 hn rfl h
  have a2 : Steps 1 { q with now := .tup [.str "enter", .int (2 * l + 1)], stack := st ++ [.tup [.str "right", .str s, .tup [.str "number", .int r], .tup []]] } { q with now := .tup [.str "value", .int (2 * l + 1)], stack := st ++ [.tup [.str "right", .str s, .tup [.str "number", .int r], .tup []]] } :=
    S1 (s := "enter") rfl rfl (s_enter_num rfl)
  have a3 : Steps 1 { q with now := .tup [.str "value", .int (2 * l + 1)], stack := st ++ [.tup [.str "right", .str s, .tup [.str "number", .int r], .tup []]] } { q with now := .tup [.str "enter", .int (2 * r + 1)], stack := st ++ [.tup [.str "prim", .str s, .int l]] } :=
    S1 (s := "value") rfl rfl (s_right rfl rfl (fun n S => x_opw_num) hl1)
  have a4 : Steps 1 { q with now := .tup [.str "enter", .int (2 * r + 1)], stack := st ++ [.tup [.str "prim", .str s, .int l]] } { q with now := .tup [.str "value", .int (2 * r + 1)], stack := st ++ [.tup [.str "prim", .str s, .int l]] } :=
    S1 (s := "enter") rfl rfl (s_enter_num rfl)
  exact a1.trans (a2.trans (a3.trans a4))
theorem x_chosen {n : Nat} {S : Store} (hv : v = 0 ∨ v = 1) : sem (n + 2) .chosen_case [.tup [.str "con", .int v, .tup []], rowsD] S = .ok (.tup [.str "give", .tup [.str "number", .int v]]) S := by
  rw [sem_chosen_case]; unfold b_chosen_case rowsD
  rcases hv with rfl | rfl <;> simp?! []
theorem lim_abs {v : Int} : (1000000000000000 < (if v < 0 then -v else v)) ↔ (1000000000000000 < v ∨ v < -1000000000000000) := by
  split <;> omega
theorem arith_of {s : String} {l r v : Int} (hs : sgn s) (hc : isCmp s = false) (hl : lm l) (hr : lm r) (hd : isDM s = true → r ≠ 0) : ∃ v, (∀ n S, sem (n + 2) .arithmetic [.str s, .int l, .int r] S = .ok (.int v) S) ∧ (s = "div" ∨ outc s l r = limO v) ∧ (s = "div" → outc s l r = .val v ∧ v = l.fdiv r) := by
  rcases hs with rfl | rfl | rfl | rfl | rfl | rfl | rfl | rfl
  · exact ⟨l + r, fun n S => x_ar_add, .inr (by simp [outc, isDM]), fun h => absurd h (by decide)⟩
  · exact ⟨l - r, fun n S => x_ar_sub, .inr (by simp [outc, isDM]), fun h => absurd h (by decide)⟩
  · exact ⟨l * r, fun n S => x_ar_mul (by unfold lm at hl; omega), .inr (by simp [outc, isDM]), fun h => absurd h (by decide)⟩
  · have h0 := hd rfl
    exact ⟨l.fdiv r, fun n S => x_ar_div ⟨h0, lm_log hr⟩, .inl rfl, fun _ => ⟨by simp [outc, isDM, h0], rfl⟩⟩
  · have h0 := hd rfl
    exact ⟨l.fmod r, fun n S => x_ar_mod h0, .inr (by simp [outc, isDM, h0]; congr 1; rw [Int.fmod_def]), fun h => absurd h (by decide)⟩
  · exact absurd hc (by decide)
  · exact absurd hc (by decide)
  · exact absurd hc (by decide)
theorem fdiv_pos {l r : Int} (hl : lm l) (h : 0 < r) : ¬ 1000000000000000 < (if l.fdiv r < 0 then -(l.fdiv r) else l.fdiv r) := by
  unfold lm at hl
  have h1 : l.fdiv r * r + l.fmod r = l := by rw [Int.mul_comm]; exact Int.mul_fdiv_add_fmod l r
  have h2 : l.fmod r < r := Int.fmod_lt_of_pos _ h
  have h3 : 0 ≤ l.fmod r := Int.fmod_nonneg_of_pos _ h
  generalize l.fdiv r = d at *
  generalize l.fmod r = m at *
  have : d ≤ 1000000000000000 := by
    apply Int.not_lt.mp; intro hh
    have : 1000000000000001 * r ≤ d * r := Int.mul_le_mul_of_nonneg_right (by omega) (by omega)
    omega
  have : -1000000000000000 ≤ d := by
    apply Int.not_lt.mp; intro hh
    have : d * r ≤ (-1000000000000001) * r := Int.mul_le_mul_of_nonneg_right (by omega) (by omega)
    omega
  split <;> omega
theorem fdiv_lm (hl : lm l) (h0 : r ≠ 0) : ¬ 1000000000000000 < (if l.fdiv r < 0 then -(l.fdiv r) else l.fdiv r) := by
  rcases Int.lt_or_gt_of_ne h0 with h | h
  · rw [← Int.neg_fdiv_neg l r]
    exact fdiv_pos (by unfold lm at hl ⊢; omega) (by omega)
  · exact fdiv_pos hl h
theorem t_flt {m : String} (hs : sgn s) (hl : lm l) (hr : lm r) (h1 : st.length < 900) (h2 : q.ev.length < 1000) (hst : q.stack = st) (hn : q.now = .tup [.str "eval", termD s l r, .tup []]) (ho : outc s l r = .flt m) :
    ∃ q', Steps 5 q q' ∧ q'.now = .tup [.str "fault", .str m] ∧ q'.ev = q.ev ++ [.tup [.str "fault", .str m]] ∧ q'.en = q.en := by
  have hc : isCmp s = false := by
    rcases hs with rfl | rfl | rfl | rfl | rfl | rfl | rfl | rfl <;> first | rfl | (simp [outc, isDM] at ho)
  unfold termD at hn
  rw [if_neg (by rw [hc]; decide)] at hn
  have a := t_prim (by omega) hst hn
  have hev : q.ev.length < 16777216 := big h2
  by_cases hz : isDM s = true ∧ r = 0
  · obtain ⟨hd, rfl⟩ := hz
    have hm : m = "division by zero" := by unfold outc at ho; rw [if_pos ⟨hd, rfl⟩] at ho; injection ho with ho; exact ho.symm
    subst hm
    let q2 : Q := { q with now := .tup [.str "value", .int (2 * 0 + 1)], stack := st ++ [.tup [.str "prim", .str s, .int l]] }
    have b := s_pzero (q := q2) (i := l) (s := s) (st := st) rfl rfl hd hev
    have a2 := S1 (q := q2) (s := "value") rfl rfl b
    exact ⟨_, a.trans a2, rfl, rfl, rfl⟩
  · have hd : isDM s = true → r ≠ 0 := fun h1 h2 => hz ⟨h1, h2⟩
    obtain ⟨v, e, e1, e2⟩ := arith_of (v := 0) hs hc hl hr hd
    have e3 : outc s l r = limO v := by
      rcases e1 with h | h
      · rw [(e2 h).1] at ho; cases ho
      · exact h
    rw [e3] at ho
    unfold limO at ho
    by_cases hv : 1000000000000000 < v ∨ v < -1000000000000000
    · rw [if_pos hv] at ho
      injection ho with ho
      subst ho
      let q2 : Q := { q with now := .tup [.str "value", .int (2 * r + 1)], stack := st ++ [.tup [.str "prim", .str s, .int l]] }
      have b := s_over (q := q2) (i := l) (j := r) (s := s) (st := st) (v := v) rfl rfl hc hd e (lim_abs.mpr hv) hev
      have a2 := S1 (q := q2) (s := "value") rfl rfl b
      exact ⟨_, a.trans a2, rfl, rfl, rfl⟩
    · rw [if_neg hv] at ho; cases ho
theorem cmp_of {s : String} {l r : Int} (hs : sgn s) (hc : isCmp s = true) : ∃ v, (v = 0 ∨ v = 1) ∧ (∀ n S, sem (n + 2) .compared [.str s, .int l, .int r] S = .ok (.int v) S) ∧ outc s l r = .val v := by
  rcases hs with rfl | rfl | rfl | rfl | rfl | rfl | rfl | rfl
  · exact absurd hc (by decide)
  · exact absurd hc (by decide)
  · exact absurd hc (by decide)
  · exact absurd hc (by decide)
  · exact absurd hc (by decide)
  · exact ⟨_, by split <;> simp, fun n S => x_co_eq, by simp [outc, isDM]⟩
  · exact ⟨_, by split <;> simp, fun n S => x_co_lt, by simp [outc, isDM]⟩
  · exact ⟨_, by split <;> simp, fun n S => x_co_le, by simp [outc, isDM]⟩
theorem getK_put {kvs : List (Key × D)} {k k' : Key} {v : D} : getK (putKD kvs k v) k' = if k = k' then some v else getK kvs k' := by
  have h1 : ∀ (l : List (Key × D)), l.any (fun kv => decide (kv.1 = k)) = false → getK (l ++ [(k, v)]) k' = if k = k' then some v else getK l k' := by
    intro l
    induction l with
    | nil => intro _; rw [List.nil_append, getK_cons, getK_nil]
    | cons p l ih =>
      intro h
      rw [List.any_cons, Bool.or_eq_false_iff] at h
      obtain ⟨p1, p2⟩ := p
      rw [List.cons_append, getK_cons, getK_cons, ih h.2]
      have hp : ¬ p1 = k := by simpa using h.1
      by_cases e : p1 = k'
      · have : ¬ k = k' := fun e2 => hp (e.trans e2.symm)
        simp [e, this]
      · simp [e]
  have h2 : ∀ (l : List (Key × D)), getK (l.map fun kv => if kv.1 = k then (kv.1, v) else kv) k' = if k = k' then (if l.any (fun kv => decide (kv.1 = k)) then some v else none) else getK l k' := by
    intro l
    induction l with
    | nil => simp [getK_nil]
    | cons p l ih =>
      obtain ⟨p1, p2⟩ := p
      rw [List.map_cons, List.any_cons, getK_cons]
      by_cases hp : p1 = k
      · subst hp
        rw [if_pos rfl, getK_cons, ih]
        by_cases e : p1 = k'
        · simp [e]
        · simp [e]
      · rw [if_neg hp, getK_cons, ih]
        by_cases e : p1 = k'
        · have : ¬ k = k' := fun e2 => hp (e.trans e2.symm)
          simp [e, this]
        · by_cases e2 : k = k'
          · subst e2
            rw [if_neg e, if_pos rfl, if_pos rfl, decide_eq_false hp, Bool.false_or]
          · simp [e, e2]
  unfold putKD
  cases h : kvs.any (fun kv => decide (kv.1 = k)) with
  | true => rw [if_pos rfl, h2, h]; simp
  | false => rw [if_neg (by decide), h1 kvs h]
/-- the value of a term, as the machine works it out -/
theorem t_val (hs : sgn s) (hl : lm l) (hr : lm r) (h1 : st.length < 900) (h3 : q.cells.length < 900) (hru : q.used + 1 ≤ q.room) (hst : q.stack = st) (hn : q.now = .tup [.str "eval", termD s l r, .tup []]) (ho : outc s l r = .val v) :
    ∃ (k : Nat) (cs : List (Key × D)) (u p : Int), k ≤ 9 ∧ Steps k q { q with now := .tup [.str "value", .int (2 * v + 1)], stack := st, cells := cs, used := u, next := p } ∧ cs.length ≤ q.cells.length + 1 ∧ u ≤ q.used + 1 ∧ q.next ≤ p ∧ (∀ i : Int, p ≤ i → (∀ j : Int, q.next ≤ j → getK q.cells (.inl j) = none) → getK cs (.inl i) = none) ∧ (∀ i : Int, i < q.next → getK cs (.inl i) = getK q.cells (.inl i)) := by
  by_cases hc : isCmp s = true
  · obtain ⟨w, hw, e, e2⟩ := cmp_of (l := l) (r := r) hs hc
    rw [e2] at ho; injection ho with ho; subst ho
    unfold termD at hn
    rw [if_pos hc] at hn
    have hl1 : q.stack.length < 16777216 := by rw [hst]; exact big (by omega)
    have a0 : Steps 1 q { q with now := .tup [.str "eval", primD s l r, .tup []], stack := st ++ [.tup [.str "case", rowsD, .non, .tup []]] } := by
      have h := s_case (q := q) (x := primD s l r) (y := rowsD) (c := .non) (frm := .tup []) hn hl1
      rw [hst] at h
      exact S1 hn rfl h
    have a1 := t_prim (q := { q with now := .tup [.str "eval", primD s l r, .tup []], stack := st ++ [.tup [.str "case", rowsD, .non, .tup []]] }) (st := st ++ [.tup [.str "case", rowsD, .non, .tup []]]) (by simp; omega) rfl rfl
    let q2 : Q := { q with now := .tup [.str "value", .int (2 * r + 1)], stack := st ++ [.tup [.str "case", rowsD, .non, .tup []]] ++ [.tup [.str "prim", .str s, .int l]] }
    have b2 := s_pcmp (q := q2) (i := l) (j := r) (s := s) (v := w) (st := st ++ [.tup [.str "case", rowsD, .non, .tup []]]) rfl rfl hc e hru (big (by show q.cells.length < 1000; omega))
    have a2 := S1 (q := q2) (s := "value") rfl rfl b2
    let q3 : Q := { q with now := .tup [.str "value", .int (2 * q.next)], stack := st ++ [.tup [.str "case", rowsD, .non, .tup []]], cells := putKD q.cells (.inl q.next) (.tup [.str "con", .int w, .tup []]), used := q.used + 1, next := q.next + 1 }
    have b3 := s_case_hit (q := q3) (a := q.next) (st := st) (rows := rowsD) (dflt := .non) (fs := []) (tag := .int w) (ws := []) (body := .tup [.str "give", .tup [.str "number", .int w]]) rfl rfl (by show getK (putKD _ _ _) _ = _; rw [getK_put, if_pos rfl]) (fun n S => x_chosen hw) rfl (by decide)
    have a3 := S1 (q := q3) (s := "value") rfl rfl b3
    have b4 := s_give (q := { q3 with stack := st, now := .tup [.str "eval", .tup [.str "give", .tup [.str "number", .int w]], .tup []] }) (op := .tup [.str "number", .int w]) (frm := .tup []) (x := .int (2 * w + 1)) rfl (fun n S => x_opw_num)
    have a4 := S1 (q := { q3 with stack := st, now := .tup [.str "eval", .tup [.str "give", .tup [.str "number", .int w]], .tup []] }) (s := "eval") rfl rfl b4
    have a5 := S1 (q := { q3 with stack := st, now := .tup [.str "enter", .int (2 * w + 1)] }) (s := "enter") rfl rfl (s_enter_num rfl)
    refine ⟨_, putKD q.cells (.inl q.next) (.tup [.str "con", .int w, .tup []]), q.used + 1, q.next + 1, ?_, a0.trans (a1.trans (a2.trans (a3.trans (a4.trans a5)))), putKD_len, by omega, by omega, fun i hi hf => ?_, fun i hi => ?_⟩
    · decide
    · rw [getK_put, if_neg (by intro hh; injection hh with hh; omega)]; exact hf i (by omega)
    · rw [getK_put, if_neg (by intro hh; injection hh with hh; omega)]
  · have hc' : isCmp s = false := by simpa using hc
    unfold termD at hn
    rw [if_neg hc] at hn
    have a1 := t_prim (by omega) hst hn
    have hd : isDM s = true → r ≠ 0 := fun hd h0 => by unfold outc at ho; rw [if_pos ⟨hd, h0⟩] at ho; cases ho
    obtain ⟨w, e, e1, e2⟩ := arith_of (v := 0) hs hc' hl hr hd
    have hw : v = w ∧ ¬ 1000000000000000 < (if w < 0 then -w else w) := by
      rcases e1 with h | h
      · obtain ⟨g1, g2⟩ := e2 h
        rw [g1] at ho; injection ho with ho
        subst ho
        exact ⟨rfl, by rw [g2]; exact fdiv_lm hl (hd (by rw [h]; rfl))⟩
      · rw [h] at ho
        unfold limO at ho
        by_cases hv : 1000000000000000 < w ∨ w < -1000000000000000
        · rw [if_pos hv] at ho; cases ho
        · rw [if_neg hv] at ho; injection ho with ho
          exact ⟨ho.symm, fun hh => hv (lim_abs.mp hh)⟩
    obtain ⟨rfl, hv⟩ := hw
    let q2 : Q := { q with now := .tup [.str "value", .int (2 * r + 1)], stack := st ++ [.tup [.str "prim", .str s, .int l]] }
    have b2 := s_arith (q := q2) (i := l) (j := r) (s := s) (v := v) (st := st) rfl rfl hc' hd e hv
    have a2 := S1 (q := q2) (s := "value") rfl rfl b2
    exact ⟨_, q.cells, q.used, q.next, by decide, a1.trans a2, by omega, by omega, by omega, fun i hi hf => hf i hi, fun i hi => rfl⟩
end Nk66

namespace Nk66
open PySem L2 Nd
abbrev It := String × Int × Int
def okI (x : It) : Prop := sgn x.1 ∧ lm x.2.1 ∧ lm x.2.2
def consD : D := .tup [.str "con", .int 1, .tup [.tup [.str "slot", .int 0], .tup [.str "slot", .int 1]]]
def letD (t b : D) : D := .tup [.str "let", .tup [.tup [.str "later", .tup [], t], .tup [.str "later", .tup [], b]], consD]
def bodyD : List It → D
  | [] => .tup [.str "con", .int 0, .tup []]
  | (s, l, r) :: L => letD (termD s l r) (bodyD L)
def evs : List It → List D
  | [] => [.tup [.str "end"]]
  | (s, l, r) :: L => match outc s l r with
    | .val v => .tup [.str "show", .int v] :: evs L
    | .flt m => [.tup [.str "fault", .str m]]
def cnt : List It → Nat
  | [] => 0
  | (s, l, r) :: L => match outc s l r with
    | .val _ => 2 + cnt L
    | .flt _ => 1
theorem newW2 {p : Int} : newW p 2 = [.int (2 * p), .int (2 * (p + 1))] := by
  unfold newW
  rw [show List.range 2 = [0, 1] from rfl]
  simp
theorem x_slots {n : Nat} {S : Store} {x y : D} : sem (n + 3) .operand_words [.tup [.tup [.str "slot", .int 0], .tup [.str "slot", .int 1]], .tup [x, y]] S = .ok (.tup [x, y]) S := by
  rw [sem_operand_words]; unfold b_operand_words; simp?! [x_opw_slotE]
theorem kne {i j : Int} (h : i ≠ j) : ¬ (Sum.inl i : Key) = Sum.inl j := fun e => h (by injection e)
def hole : D := .tup [.str "hole"]
def mkQ (q : Q) (now : D) (stack : List D) (cells : List (Key × D)) (used next ser : Int) (ev en : List D) : Q := { q with now := now, stack := stack, cells := cells, used := used, next := next, serial := ser, ev := ev, en := en }
def evl (b : D) : D := .tup [.str "eval", b, .tup []]
def upd' (a : Int) : D := .tup [.str "update", .int a]
def sho : D := .tup [.str "show"]
theorem trace (g : Q) : ∀ (L : List It) (u p ser a : Int) (cs : List (Key × D)) (ev en : List D), (∀ x ∈ L, okI x) → u + 8 * (L.length : Int) + 1 ≤ g.room → (∀ i : Int, p ≤ i → getK cs (.inl i) = none) → getK cs (.inl a) = some hole → a < p →
    cs.length + 10 * L.length + 10 < 500 → ev.length + L.length + 5 < 500 → en.length + 2 * L.length + 5 < 500 →
    ∃ (k : Nat) (q' : Q) (s : String) (l : List D), k ≤ 30 * L.length + 10 ∧ Steps k (mkQ g (evl (bodyD L)) [sho, upd' a] cs u p ser ev en) q' ∧ q'.ev = ev ++ evs L ∧ q'.now = .tup (.str (Str.ofString s) :: l) ∧ isEnd s = true ∧ (evs L).getLast? = some q'.now ∧ q'.en.length = en.length + cnt L
  | [], u, p, ser, a, cs, ev, en, _, hr, hf, ha, hap, hc, hv, hn => by
    simp only [List.length_nil, Nat.mul_zero, Nat.add_zero, Int.mul_zero, Int.natCast_zero, Int.add_zero] at hr hc hv hn
    let q0 : Q := mkQ g (evl (bodyD [])) [sho, upd' a] cs u p ser ev en
    have b0 := s_con (q := q0) (tag := .int 0) (ops := []) (frm := .tup []) (ws := []) rfl (fun n S => x_opws0) (big (by show cs.length < 1000; omega)) (by show u + (1 + (([] : List D).length : Int)) ≤ g.room; simp; omega)
    let q1 : Q := mkQ g (.tup [.str "value", .int (2 * p)]) [sho, upd' a] (putKD cs (.inl p) (.tup [.str "con", .int 0, .tup []])) (u + (1 + (([] : List D).length : Int))) (p + 1) ser ev en
    have a0 : Steps 1 q0 q1 := S1 (s := "eval") rfl rfl b0
    have b1 := s_update (q := q1) (x := .int (2 * p)) (a := a) (st := [sho]) rfl rfl (by show getK (putKD _ _ _) _ = _; rw [getK_put, if_neg (kne (by omega))]; exact ha) (big (Nat.lt_of_le_of_lt putKD_len (by omega)))
    let q2 : Q := mkQ g (.tup [.str "value", .int (2 * p)]) [sho] (putKD (putKD cs (.inl p) (.tup [.str "con", .int 0, .tup []])) (.inl a) (.tup [.str "on", .int (2 * p)])) (u + (1 + (([] : List D).length : Int))) (p + 1) ser ev en
    have a1 : Steps 1 q1 q2 := S1 (s := "value") rfl rfl b1
    have b2 := s_end (q := q2) (a := p) (x := .tup []) (st := []) rfl rfl (by show getK (putKD _ _ _) _ = _; rw [getK_put, if_neg (kne (by omega)), getK_put, if_pos rfl]) (big (by show ev.length < 1000; omega))
    have a2 := S1 (q := q2) (s := "value") rfl rfl b2
    exact ⟨_, _, "end", [], by decide, a0.trans (a1.trans a2), rfl, rfl, rfl, rfl, rfl⟩
  | (s, l, r) :: L, u, p, ser, a, cs, ev, en, hok, hr, hf, ha, hap, hc, hv, hn => by
    rw [List.length_cons] at hr hc hv hn
    obtain ⟨hs, hl, hrr⟩ := hok (s, l, r) (by simp)
    let B := bodyD L
    let tm := termD s l r
    let q0 : Q := mkQ g (evl (letD tm B)) [sho, upd' a] cs u p ser ev en
    let c1 := putKD cs (.inl p) (.tup [.str "later", tm, .tup [], .int ser])
    let c2 := putKD c1 (.inl (p + 1)) (.tup [.str "later", B, .tup [], .int (ser + 1)])
    have hc1 : c1.length ≤ cs.length + 1 := putKD_len
    have hc2 : c2.length ≤ c1.length + 1 := putKD_len
    have hm : MkM ([] ++ newW p 2) [.tup [.str "later", .tup [], tm], .tup [.str "later", .tup [], B]] q0 (mkQ g (evl (letD tm B)) [sho, upd' a] c2 (u + lsz [] + lsz []) (p + 1 + 1) (ser + 1 + 1) ev en) :=
      .later (ws := []) (fun n S => x_opws0) (big (by show cs.length < 1000; omega)) (.later (ws := []) (fun n S => x_opws0) (big (by show c1.length < 1000; omega)) .nil)
    have hz : lsz [] = 2 := by decide
    have b0 := s_let (q := q0) (dz := fun _ => 2) (body := consD) (fs := []) (ms := [.tup [.str "later", .tup [], tm], .tup [.str "later", .tup [], B]]) rfl (fun m hmm n S => by
      rw [← hz]
      simp only [List.mem_cons, List.not_mem_nil, or_false] at hmm
      rcases hmm with rfl | rfl
      · exact x_dsize_later
      · exact x_dsize_later) (by show 2 < 1000; decide) (by show 0 + 2 ≤ 16777216; decide) (.inr ⟨by show (0 : Int) < ([2, 2] : List Int).sum; decide, by show u + (([2, 2] : List Int)).sum ≤ g.room; simp; omega⟩) hm
    rw [hz] at b0
    let q1 : Q := mkQ g (.tup [.str "eval", consD, .tup ([] ++ newW p 2)]) [sho, upd' a] c2 (u + 2 + 2) (p + 1 + 1) (ser + 1 + 1) ev en
    have a0 : Steps 1 q0 q1 := S1 (s := "eval") rfl rfl b0
    have b1 := s_con (q := q1) (tag := .int 1) (ops := [.tup [.str "slot", .int 0], .tup [.str "slot", .int 1]]) (frm := .tup ([] ++ newW p 2)) (ws := [.int (2 * p), .int (2 * (p + 1))]) rfl (fun n S => by rw [List.nil_append, newW2]; exact x_slots) (big (by show c2.length < 1000; omega)) (by show u + 2 + 2 + (1 + 2) ≤ g.room; omega)
    let c3 := putKD c2 (.inl (p + 1 + 1)) (.tup [.str "con", .int 1, .tup [.int (2 * p), .int (2 * (p + 1))]])
    have hc3 : c3.length ≤ c2.length + 1 := putKD_len
    let q2 : Q := mkQ g (.tup [.str "value", .int (2 * (p + 1 + 1))]) [sho, upd' a] c3 (u + 2 + 2 + (1 + 2)) (p + 1 + 1 + 1) (ser + 1 + 1) ev en
    have a1 : Steps 1 q1 q2 := S1 (s := "eval") rfl rfl b1
    have b2 := s_update (q := q2) (x := .int (2 * (p + 1 + 1))) (a := a) (st := [sho]) rfl rfl (by
      show getK (putKD (putKD (putKD _ _ _) _ _) _ _) _ = _
      rw [getK_put, if_neg (kne (by omega)), getK_put, if_neg (kne (by omega)), getK_put, if_neg (kne (by omega))]; exact ha) (big (by show c3.length < 1000; omega))
    let c4 := putKD c3 (.inl a) (.tup [.str "on", .int (2 * (p + 1 + 1))])
    have hc4 : c4.length ≤ c3.length + 1 := putKD_len
    let q3 : Q := mkQ g (.tup [.str "value", .int (2 * (p + 1 + 1))]) [sho] c4 (u + 2 + 2 + (1 + 2)) (p + 1 + 1 + 1) (ser + 1 + 1) ev en
    have a2 : Steps 1 q2 q3 := S1 (s := "value") rfl rfl b2
    have b3 := s_cons (q := q3) (a := p + 1 + 1) (st := []) (x := .int (2 * p)) (y := .int (2 * (p + 1))) rfl rfl (by
      show getK (putKD (putKD _ _ _) _ _) _ = _
      rw [getK_put, if_neg (kne (by omega)), getK_put, if_pos rfl]) (by decide)
    let hd : D := .tup [.str "head", .int (2 * (p + 1))]
    let q4 : Q := mkQ g (.tup [.str "enter", .int (2 * p)]) [hd] c4 (u + 2 + 2 + (1 + 2)) (p + 1 + 1 + 1) (ser + 1 + 1) ev en
    have a3 : Steps 1 q3 q4 := S1 (s := "value") rfl rfl b3
    have g4 : getK c4 (.inl p) = some (.tup [.str "later", tm, .tup [], .int ser]) := by
      show getK (putKD (putKD (putKD (putKD _ _ _) _ _) _ _) _ _) _ = _
      rw [getK_put, if_neg (kne (by omega)), getK_put, if_neg (kne (by omega)), getK_put, if_neg (kne (by omega)), getK_put, if_pos rfl]
    have g5 : getK c4 (.inl (p + 1)) = some (.tup [.str "later", B, .tup [], .int (ser + 1)]) := by
      show getK (putKD (putKD (putKD (putKD _ _ _) _ _) _ _) _ _) _ = _
      rw [getK_put, if_neg (kne (by omega)), getK_put, if_neg (kne (by omega)), getK_put, if_pos rfl]
    have g6 : ∀ i : Int, p + 1 + 1 + 1 ≤ i → getK c4 (.inl i) = none := fun i hi => by
      show getK (putKD (putKD (putKD (putKD _ _ _) _ _) _ _) _ _) _ = _
      rw [getK_put, if_neg (kne (by omega)), getK_put, if_neg (kne (by omega)), getK_put, if_neg (kne (by omega)), getK_put, if_neg (kne (by omega))]
      exact hf i (by omega)
    have b4 := s_enter_later (q := q4) (a := p) (body := tm) (fs := []) (x := .int ser) rfl g4 (big (by show c4.length < 1000; omega)) (by show 1 < 16777216; decide) (big (by show en.length < 1000; omega))
    rw [hz] at b4
    let c5 := putKD c4 (.inl p) hole
    have hc5 : c5.length ≤ c4.length + 1 := putKD_len
    let q5 : Q := mkQ g (evl tm) [hd, upd' p] c5 (u + 2 + 2 + (1 + 2) + (2 - 2)) (p + 1 + 1 + 1) (ser + 1 + 1) ev (en ++ [.int ser])
    have a4 : Steps 1 q4 q5 := S1 (s := "enter") rfl rfl b4
    have T5 : Steps 5 q0 q5 := a0.trans (a1.trans (a2.trans (a3.trans a4)))
    cases ho : outc s l r with
    | flt m =>
      obtain ⟨q', t1, t2, t3, t4⟩ := t_flt (q := q5) (st := [hd, upd' p]) hs hl hrr (by show 2 < 900; decide) (by show ev.length < 1000; omega) rfl rfl ho
      refine ⟨_, q', "fault", [.str m], by omega, T5.trans t1, ?_, t2, rfl, ?_, ?_⟩
      · rw [t3]; unfold evs; rw [ho]; rfl
      · rw [t2]; unfold evs; rw [ho]; rfl
      · rw [t4]; unfold cnt; rw [ho]; show (en ++ [_]).length = _; simp
    | val v =>
      obtain ⟨k1, cs', u', p', hk1, t1, t2, t3, t4, t5, t6⟩ := t_val (q := q5) (st := [hd, upd' p]) hs hl hrr (by show 2 < 900; decide) (by show c5.length < 900; omega) (by show u + 2 + 2 + (1 + 2) + (2 - 2) + 1 ≤ g.room; omega) rfl rfl ho
      have t2' : cs'.length ≤ c5.length + 1 := t2
      have t3' : u' ≤ u + 2 + 2 + (1 + 2) + (2 - 2) + 1 := t3
      have t4' : p + 1 + 1 + 1 ≤ p' := t4
      have h5 : ∀ j : Int, p + 1 + 1 + 1 ≤ j → getK c5 (.inl j) = none := fun j hj => by
        show getK (putKD _ _ _) _ = _
        rw [getK_put, if_neg (kne (by omega))]; exact g6 j hj
      have e1 : getK cs' (.inl p) = some hole := by
        rw [t6 p (by show p < p + 1 + 1 + 1; omega)]
        show getK (putKD _ _ _) _ = _
        rw [getK_put, if_pos rfl]
      have e2 : getK cs' (.inl (p + 1)) = some (.tup [.str "later", B, .tup [], .int (ser + 1)]) := by
        rw [t6 (p + 1) (by show p + 1 < p + 1 + 1 + 1; omega)]
        show getK (putKD _ _ _) _ = _
        rw [getK_put, if_neg (kne (by omega))]; exact g5
      let q6 : Q := mkQ g (.tup [.str "value", .int (2 * v + 1)]) [hd, upd' p] cs' u' p' (ser + 1 + 1) ev (en ++ [.int ser])
      have T6 : Steps k1 q5 q6 := t1
      have b6 := s_update (q := q6) (x := .int (2 * v + 1)) (a := p) (st := [hd]) rfl rfl e1 (big (by show cs'.length < 1000; omega))
      let c7 := putKD cs' (.inl p) (.tup [.str "on", .int (2 * v + 1)])
      have hc7 : c7.length ≤ cs'.length + 1 := putKD_len
      let q7 : Q := mkQ g (.tup [.str "value", .int (2 * v + 1)]) [hd] c7 u' p' (ser + 1 + 1) ev (en ++ [.int ser])
      have a6 : Steps 1 q6 q7 := S1 (s := "value") rfl rfl b6
      have b7 := s_head (q := q7) (v := v) (x := .int (2 * (p + 1))) (st := []) rfl rfl (big (by show ev.length < 1000; omega)) (by decide)
      let q8 : Q := mkQ g (.tup [.str "enter", .int (2 * (p + 1))]) [sho] c7 u' p' (ser + 1 + 1) (ev ++ [.tup [.str "show", .int v]]) (en ++ [.int ser])
      have a7 : Steps 1 q7 q8 := S1 (s := "value") rfl rfl b7
      have g8 : getK c7 (.inl (p + 1)) = some (.tup [.str "later", B, .tup [], .int (ser + 1)]) := by
        show getK (putKD _ _ _) _ = _
        rw [getK_put, if_neg (kne (by omega))]; exact e2
      have b8 := s_enter_later (q := q8) (a := p + 1) (body := B) (fs := []) (x := .int (ser + 1)) rfl g8 (big (by show c7.length < 1000; omega)) (by show 1 < 16777216; decide) (big (by show (en ++ [_]).length < 1000; simp; omega))
      rw [hz] at b8
      let c9 := putKD c7 (.inl (p + 1)) hole
      have hc9 : c9.length ≤ c7.length + 1 := putKD_len
      let q9 : Q := mkQ g (evl B) [sho, upd' (p + 1)] c9 (u' + (2 - 2)) p' (ser + 1 + 1) (ev ++ [.tup [.str "show", .int v]]) (en ++ [.int ser] ++ [.int (ser + 1)])
      have a8 : Steps 1 q8 q9 := S1 (s := "enter") rfl rfl b8
      have hlen : c9.length ≤ cs.length + 9 := by omega
      obtain ⟨k2, q', s', l', i1, i2, i3, i4, i5, i6, i7⟩ := trace g L (u' + (2 - 2)) p' (ser + 1 + 1) (p + 1) c9 (ev ++ [.tup [.str "show", .int v]]) (en ++ [.int ser] ++ [.int (ser + 1)]) (fun x hx => hok x (by simp [hx])) (by omega)
        (fun i hi => by
          show getK (putKD (putKD _ _ _) _ _) _ = _
          rw [getK_put, if_neg (kne (by omega)), getK_put, if_neg (kne (by omega))]
          exact t5 i hi h5)
        (by show getK (putKD _ _ _) _ = _; rw [getK_put, if_pos rfl]) (by omega) (by omega) (by simp; omega) (by simp; omega)
      refine ⟨_, q', s', l', ?_, T5.trans (T6.trans (a6.trans (a7.trans (a8.trans i2)))), ?_, i4, i5, ?_, ?_⟩
      · rw [List.length_cons]; omega
      · rw [i3]; conv => rhs; unfold evs
        rw [ho]; simp
      · conv => lhs; unfold evs
        rw [ho]
        have hne : evs L ≠ [] := by intro h; rw [h] at i6; cases i6
        show (_ :: evs L).getLast? = _
        rw [← i6]
        cases hh : evs L with
        | nil => exact absurd hh hne
        | cons x y => simp [List.getLast?_cons_cons]
      · rw [i7]; conv => rhs; unfold cnt
        rw [ho]; simp; omega
end Nk66

namespace Nk66
open PySem L2 Nd
/-! events as data -/
inductive Ev where
  | sh (v : Int) | fa (b : Bool) | en
def fmsg (b : Bool) : String := if b then "division by zero" else "overflow"
def Ev.d : Ev → D
  | .sh v => .tup [.str "show", .int v]
  | .fa b => .tup [.str "fault", .str (fmsg b)]
  | .en => .tup [.str "end"]
def Ev.py : Ev → PyData
  | .sh v => .tuple [.str "show", .int v]
  | .fa b => .tuple [.str "fault", .str (fmsg b)]
  | .en => .tuple [.str "end"]
def Ev.isSh : Ev → Bool
  | .sh _ => true
  | _ => false
theorem toPy_ev {k : Nat} {S : Store} (e : Ev) : toPy (k + 2) S e.d = some e.py := by cases e <;> rfl
theorem opt_ev {k : Nat} {S : Store} : ∀ es : List Ev, optAll (toPy (k + 2) S) (es.map Ev.d) = some (es.map Ev.py)
  | [] => rfl
  | e :: es => by rw [List.map_cons, List.map_cons]; unfold optAll; rw [toPy_ev, opt_ev es]
theorem ok_fmsg (b : Bool) : PyData.strOk (fmsg b) = true := by cases b <;> decide +kernel
theorem can_ev (e : Ev) : e.py.canLay0 = true := by
  cases e with
  | sh v => show (PyData.strOk "show" && (true && true)) = true; rw [show PyData.strOk "show" = true by decide +kernel]; rfl
  | fa b => show (PyData.strOk "fault" && (PyData.strOk (fmsg b) && true)) = true; rw [show PyData.strOk "fault" = true by decide +kernel, ok_fmsg]; rfl
  | en => show (PyData.strOk "end" && true) = true; rw [show PyData.strOk "end" = true by decide +kernel]; rfl
theorem dep_ev (e : Ev) : e.py.depth ≤ 1 := by cases e <;> exact Nat.le_refl 1
theorem can_evs : ∀ es : List Ev, PyData.canLayAll0 (es.map Ev.py) = true
  | [] => rfl
  | e :: es => by rw [List.map_cons]; show (e.py.canLay0 && PyData.canLayAll0 (es.map Ev.py)) = true; rw [can_ev, can_evs es]; rfl
theorem dep_evs : ∀ es : List Ev, PyData.depthAll (es.map Ev.py) ≤ 1
  | [] => by decide
  | e :: es => by rw [List.map_cons]; show max e.py.depth (PyData.depthAll (es.map Ev.py)) ≤ 1; exact Nat.max_le.mpr ⟨dep_ev e, dep_evs es⟩
theorem shp_l (es : List Ev) : SeqAt.shaped (.list (es.map Ev.py)) = true := by
  unfold SeqAt.shaped
  rw [Bool.and_eq_true, decide_eq_true_eq]
  exact ⟨can_evs es, by show PyData.depthAll _ + 1 ≤ 64; have := dep_evs es; omega⟩
theorem shp_t (es : List Ev) : SeqAt.shaped (.tuple (es.map Ev.py)) = true := by
  unfold SeqAt.shaped
  rw [Bool.and_eq_true, decide_eq_true_eq]
  exact ⟨can_evs es, by show PyData.depthAll _ + 1 ≤ 64; have := dep_evs es; omega⟩
theorem shp_e (e : Ev) : SeqAt.shaped e.py = true := by
  unfold SeqAt.shaped
  rw [Bool.and_eq_true, decide_eq_true_eq]
  exact ⟨can_ev e, by have := dep_ev e; omega⟩
theorem eqD_tt {S : Store} {l m : List D} {p q : PyData} (h1 : toPy 64 S (.tup l) = some p) (h2 : toPy 64 S (.tup m) = some q) (s1 : SeqAt.shaped p = true) (s2 : SeqAt.shaped q = true) : eqD (.tup l) (.tup m) S = some (PyData.eqv p q) := by
  show (match toPy 64 S (.tup l), toPy 64 S (.tup m) with
    | some p, some q => if SeqAt.shaped p && SeqAt.shaped q then some (PyData.eqv p q) else none
    | _, _ => none) = _
  rw [h1, h2]; dsimp only; rw [s1, s2]; rfl
theorem eqD_oo {S : Store} {l m : Nat} {p q : PyData} (h1 : toPy 64 S (.obj l) = some p) (h2 : toPy 64 S (.obj m) = some q) (s1 : SeqAt.shaped p = true) (s2 : SeqAt.shaped q = true) : eqD (.obj l) (.obj m) S = some (PyData.eqv p q) := by
  show (match toPy 64 S (.obj l), toPy 64 S (.obj m) with
    | some p, some q => if SeqAt.shaped p && SeqAt.shaped q then some (PyData.eqv p q) else none
    | _, _ => none) = _
  rw [h1, h2]; dsimp only; rw [s1, s2]; rfl
theorem eq_tup {S : Store} (es : List Ev) : eqD (.tup (es.map Ev.d)) (.tup (es.map Ev.d)) S = some true := by
  have h : toPy 64 S (.tup (es.map Ev.d)) = some (.tuple (es.map Ev.py)) := by
    show (optAll (toPy 63 S) (es.map Ev.d)).map _ = _; rw [opt_ev es]; rfl
  rw [eqD_tt h h (shp_t es) (shp_t es), SeqAt.eqv_refl _ (show (PyData.tuple (es.map Ev.py)).canLay0 = true from can_evs es)]
theorem ev_tup (e : Ev) : ∃ l, e.d = .tup l := by cases e <;> exact ⟨_, rfl⟩
theorem eqD_ev {S : Store} (e f : Ev) : eqD e.d f.d S = some (PyData.eqv e.py f.py) := by
  have h1 : toPy 64 S e.d = some e.py := toPy_ev e
  have h2 : toPy 64 S f.d = some f.py := toPy_ev f
  obtain ⟨l, hl⟩ := ev_tup e
  obtain ⟨m, hm⟩ := ev_tup f
  rw [hl] at h1 ⊢
  rw [hm] at h2 ⊢
  exact eqD_tt h1 h2 (shp_e e) (shp_e f)
theorem eq_ev {S : Store} (e : Ev) : eqD e.d e.d S = some true := by
  rw [eqD_ev, SeqAt.eqv_refl _ (can_ev e)]
def Ev.isEn : Ev → Bool
  | .en => true
  | _ => false
theorem eq_en {S : Store} (e : Ev) : eqD e.d (.tup [.str "end"]) S = some e.isEn := by
  have h := eqD_ev (S := S) e .en
  cases e with
  | sh v =>
    refine h.trans ?_
    show some ((Str.ofString "show" == Str.ofString "end") && PyData.eqvAll [.int v] []) = some false
    rw [e_beqS]; rfl
  | fa b =>
    refine h.trans ?_
    show some ((Str.ofString "fault" == Str.ofString "end") && PyData.eqvAll [.str (fmsg b)] []) = some false
    rw [e_beqS]; rfl
  | en => exact eq_ev .en
theorem eq_emp {S : Store} {p k : Nat} {es : List Ev} (h1 : S[p]? = some (.lst (es.map Ev.d))) (h2 : S[k]? = some (.lst [])) : eqD (.obj p) (.obj k) S = some es.isEmpty := by
  have g1 : toPy 64 S (.obj p) = some (.list (es.map Ev.py)) := by
    show (match S[p]? with | some (O.lst l) => (optAll (toPy 63 S) l).map PyData.list | _ => none) = _
    rw [h1]
    show (optAll (toPy 63 S) (es.map Ev.d)).map _ = _; rw [opt_ev es]; rfl
  have g2 : toPy 64 S (.obj k) = some (.list []) := by
    show (match S[k]? with | some (O.lst l) => (optAll (toPy 63 S) l).map PyData.list | _ => none) = _
    rw [h2]; rfl
  rw [eqD_oo g1 g2 (shp_l es) (by decide)]
  cases es <;> rfl
def evO : Out → Ev
  | .val v => .sh v
  | .flt m => .fa (m == "division by zero")
def expE : List It → List Ev
  | [] => [.en]
  | (s, l, r) :: L => evO (outc s l r) :: expE L
def evE : List It → List Ev
  | [] => [.en]
  | (s, l, r) :: L => match outc s l r with
    | .val v => .sh v :: evE L
    | .flt m => [.fa (m == "division by zero")]
theorem outc_msg {s : String} {l r : Int} {m : String} (h : outc s l r = .flt m) : m = fmsg (m == "division by zero") := by
  have : m = "division by zero" ∨ m = "overflow" := by
    unfold outc limO at h
    split at h
    · injection h with h; exact .inl h.symm
    · repeat' (split at h)
      all_goals first | (cases h; done) | (injection h with h; exact .inr h.symm)
  rcases this with rfl | rfl <;> rfl
theorem evO_d {s : String} {l r : Int} : (evO (outc s l r)).d = (outc s l r).d := by
  cases h : outc s l r with
  | val v => rfl
  | flt m => show D.tup [.str "fault", .str (fmsg _)] = D.tup [.str "fault", .str m]; rw [← outc_msg h]
theorem evs_E : ∀ L : List It, evs L = (evE L).map Ev.d
  | [] => rfl
  | (s, l, r) :: L => by
    unfold evs evE
    cases h : outc s l r with
    | val v => simp only [List.map_cons]; rw [evs_E L]; rfl
    | flt m => simp only [List.map_cons, List.map_nil]; show [D.tup [.str "fault", .str m]] = [D.tup [.str "fault", .str (fmsg _)]]; rw [← outc_msg h]
def isFin : List It → Bool
  | [] => true
  | (s, l, r) :: L => match outc s l r with
    | .val _ => isFin L
    | .flt _ => false
theorem evE_last : ∀ L : List It, ∃ (es : List Ev) (e : Ev), evE L = es ++ [e] ∧ e.isEn = isFin L ∧ (cnt L = if isFin L then 2 * es.length else 2 * es.length + 1)
  | [] => ⟨[], .en, rfl, rfl, rfl⟩
  | (s, l, r) :: L => by
    unfold evE isFin cnt
    cases h : outc s l r with
    | val v =>
      obtain ⟨es, e, h1, h2, h3⟩ := evE_last L
      refine ⟨.sh v :: es, e, by simp only [h1]; rfl, h2, ?_⟩
      simp only [h3, List.length_cons]
      split <;> omega
    | flt m => exact ⟨[], .fa _, rfl, rfl, rfl⟩
end Nk66

namespace Nk66
open PySem L2 Nd
noncomputable def shB : MS := (mIf (mOr (mBool (mOp2 oEq (mVar 8) (mAlloc (mLst mNil)))) (mBool (mOp2 oEq (mOp2 oIx (mOp2 oIx (mVar 8) (mOp1 oNeg (mC (.int 1)))) (mC (.int 0))) (mC (.str "show"))))) (mExpr (mBM oAppend (mVar 8) (mCons (mVar 9) mNil))) mSkip)
noncomputable def itB (F : Fi → Fn) : MS := (mSeq (mSet 5 (mIxL (mLst (mCons (mC (.str "+")) (mCons (mC (.str "-")) (mCons (mC (.str "*")) (mCons (mC (.str "div")) (mCons (mC (.str "mod")) (mCons (mC (.str "==")) (mCons (mC (.str "<")) (mCons (mC (.str "<=")) mNil))))))))) (mCall (F .l_next) (mCons (mVar 1) (mCons (mC (.int 8)) mNil))))) (mSeq (mSet 6 (mCall (F .l_number) (mCons (mVar 1) mNil))) (mSeq (mSet 7 (mCall (F .l_number) (mCons (mVar 1) mNil))) (mSeq (mSet 2 (mTup (mCons (mC (.str "let")) (mCons (mTup (mCons (mTup (mCons (mC (.str "later")) (mCons (mTup mNil) (mCons (mCall (F .l_term) (mCons (mVar 5) (mCons (mVar 6) (mCons (mVar 7) mNil)))) mNil)))) (mCons (mTup (mCons (mC (.str "later")) (mCons (mTup mNil) (mCons (mVar 2) mNil)))) mNil))) (mCons (mTup (mCons (mC (.str "con")) (mCons (mC (.int 1)) (mCons (mTup (mCons (mTup (mCons (mC (.str "slot")) (mCons (mC (.int 0)) mNil))) (mCons (mTup (mCons (mC (.str "slot")) (mCons (mC (.int 1)) mNil))) mNil))) mNil)))) mNil))))) (mSet 3 (mOp2 oAdd (mAlloc (mLst (mCons (mCall (F .l_result) (mCons (mVar 5) (mCons (mVar 6) (mCons (mVar 7) mNil)))) mNil))) (mVar 3)))))))
variable {S : Store} {ps p : Nat} {e0 e1 e2 e3 e4 e5 e6 e7 e9 e10 e11 e12 e13 e14 : Option D} {as bs : List Ev} {e f : Ev} {G : List D}
def goes (as : List Ev) : Prop := as = [] ∨ ∃ bs v, as = bs ++ [.sh v]
theorem app_get {o x : O} {i : Nat} (h : S[i]? = some o) : (S ++ [x])[i]? = some o := by
  rw [List.getElem?_append_left (List.getElem?_eq_some_iff.mp h).1]; exact h
theorem app_last {x : O} : (S ++ [x])[S.length]? = some x := by rw [e_app0]; rfl
theorem sh_go (h : S[ps]? = some (.lst (as.map Ev.d))) (hl : as.length < 1000) (hg : goes as) :
    shB [e0, e1, e2, e3, e4, e5, e6, e7, some (.obj ps), some e.d, e10, e11, e12, e13, e14] S = .ok (.nx, [e0, e1, e2, e3, e4, e5, e6, e7, some (.obj ps), some e.d, e10, e11, e12, e13, e14]) ((S ++ [O.lst []]).set ps (O.lst ((as ++ [e]).map Ev.d))) := by
  have h' : (S ++ [.lst []])[ps]? = some (.lst (as.map Ev.d)) := app_get h
  have he := eq_emp (S := S ++ [.lst []]) (p := ps) (k := S.length) h' app_last
  have hl' : (as.map Ev.d).length < 16777216 := by rw [List.length_map]; exact big hl
  unfold shB
  rcases hg with rfl | ⟨bs, v, rfl⟩
  · simp?! [he, h', hl', List.isEmpty]
  · have hx : atI ((bs ++ [Ev.sh v]).map Ev.d) (-1) = some (.tup [.str "show", .int v]) := by rw [List.map_append]; exact e_atm
    have hem : (bs ++ [Ev.sh v]).isEmpty = false := by cases bs <;> rfl
    simp?! [he, h', hl', hem, hx]
    simp [List.map_append]
theorem sh_no (h : S[ps]? = some (.lst ((bs ++ [f]).map Ev.d))) (hf : f.isSh = false) :
    shB [e0, e1, e2, e3, e4, e5, e6, e7, some (.obj ps), some e.d, e10, e11, e12, e13, e14] S = .ok (.nx, [e0, e1, e2, e3, e4, e5, e6, e7, some (.obj ps), some e.d, e10, e11, e12, e13, e14]) (S ++ [.lst []]) := by
  have h' : (S ++ [.lst []])[ps]? = some (.lst ((bs ++ [f]).map Ev.d)) := app_get h
  have he := eq_emp (S := S ++ [.lst []]) (p := ps) (k := S.length) h' app_last
  have hem : (bs ++ [f]).isEmpty = false := by cases bs <;> rfl
  have hx : atI ((bs ++ [f]).map Ev.d) (-1) = some f.d := by rw [List.map_append]; exact e_atm
  unfold shB
  cases f with
  | sh v => cases hf
  | fa b =>
    have hx2 : atI ((bs ++ [Ev.fa b]).map Ev.d) (-1) = some (.tup [.str "fault", .str (fmsg b)]) := hx
    simp?! [he, h', hem, hx2]
  | en =>
    have hx2 : atI ((bs ++ [Ev.en]).map Ev.d) (-1) = some (.tup [.str "end"]) := hx
    simp?! [he, h', hem, hx2]
theorem sh_loopB (hf : f.isSh = false) (hpp : p ≠ ps) : ∀ (es : List Ev) (S : Store) (e9 : Option D), S[ps]? = some (.lst ((bs ++ [f]).map Ev.d)) → S[p]? = some (.lst G) →
    ∃ y S', loopS (.nm 9) shB (some (p, .lst G)) (es.map Ev.d) [e0, e1, e2, e3, e4, e5, e6, e7, some (.obj ps), e9, e10, e11, e12, e13, e14] S = .ok (.nx, [e0, e1, e2, e3, e4, e5, e6, e7, some (.obj ps), y, e10, e11, e12, e13, e14]) S' ∧ S'[ps]? = some (.lst ((bs ++ [f]).map Ev.d))
  | [], S, e9, h, hp => ⟨e9, S, e_loop0 hp, h⟩
  | e :: es, S, e9, h, hp => by
    obtain ⟨y, S', q1, q2⟩ := sh_loopB hf hpp es (S ++ [.lst []]) (some e.d) (app_get h) (app_get hp)
    refine ⟨y, S', ?_, q2⟩
    rw [List.map_cons, e_loop1 (show gok (some (p, O.lst G)) S from hp), ← q1]
    simp?! [sh_no h hf]
theorem sh_loopA (hpp : p ≠ ps) : ∀ (L : List It) (as : List Ev) (S : Store) (e9 : Option D), goes as → as.length + L.length < 900 → S[ps]? = some (.lst (as.map Ev.d)) → S[p]? = some (.lst G) →
    ∃ y S', loopS (.nm 9) shB (some (p, .lst G)) ((expE L).map Ev.d) [e0, e1, e2, e3, e4, e5, e6, e7, some (.obj ps), e9, e10, e11, e12, e13, e14] S = .ok (.nx, [e0, e1, e2, e3, e4, e5, e6, e7, some (.obj ps), y, e10, e11, e12, e13, e14]) S' ∧ S'[ps]? = some (.lst ((as ++ evE L).map Ev.d))
  | [], as, S, e9, hg, hl, h, hp => by
    have hps : ps < (S ++ [O.lst []]).length := (List.getElem?_eq_some_iff.mp (app_get (x := .lst []) h)).1
    refine ⟨some Ev.en.d, (S ++ [O.lst []]).set ps (O.lst ((as ++ [Ev.en]).map Ev.d)), ?_, by rw [List.getElem?_set_self hps]; rfl⟩
    unfold expE
    rw [List.map_cons, e_loop1 (show gok (some (p, O.lst G)) S from hp)]
    simp?! [sh_go (e := Ev.en) h (by simp at hl; omega) hg]
    exact e_loop0 (show _ = _ by rw [List.getElem?_set_ne (Ne.symm hpp)]; exact app_get hp)
  | (s, l, r) :: L, as, S, e9, hg, hl, h, hp => by
    rw [List.length_cons] at hl
    have hps : ps < (S ++ [O.lst []]).length := (List.getElem?_eq_some_iff.mp (app_get (x := .lst []) h)).1
    have hp2 : ∀ o : O, ((S ++ [O.lst []]).set ps o)[p]? = some (.lst G) := fun o => by rw [List.getElem?_set_ne (Ne.symm hpp)]; exact app_get hp
    have hq : ((S ++ [O.lst []]).set ps (O.lst ((as ++ [evO (outc s l r)]).map Ev.d)))[ps]? = some (.lst ((as ++ [evO (outc s l r)]).map Ev.d)) := List.getElem?_set_self hps
    have one := sh_go (e := evO (outc s l r)) (e0 := e0) (e1 := e1) (e2 := e2) (e3 := e3) (e4 := e4) (e5 := e5) (e6 := e6) (e7 := e7) (e10 := e10) (e11 := e11) (e12 := e12) (e13 := e13) (e14 := e14) h (by omega) hg
    cases ho : outc s l r with
    | val v =>
      rw [ho] at one hq
      obtain ⟨y, S', q1, q2⟩ := sh_loopA hpp L (as ++ [.sh v]) _ (some (Ev.sh v).d) (.inr ⟨as, v, rfl⟩) (by simp; omega) hq (hp2 _)
      refine ⟨y, S', ?_, ?_⟩
      · unfold expE
        rw [ho, List.map_cons, e_loop1 (show gok (some (p, O.lst G)) S from hp), ← q1]
        rw [e_asgN, e_kLoop1]
        simp only [List.set_cons_succ, List.set_cons_zero]
        rw [one, e_ok, e_loop2n]
        rfl
      · rw [q2]; conv => rhs; unfold evE
        rw [ho]; simp
    | flt m =>
      rw [ho] at one hq
      obtain ⟨y, S', q1, q2⟩ := sh_loopB (f := .fa (m == "division by zero")) rfl hpp (expE L) _ (some (evO (.flt m)).d) hq (hp2 _)
      refine ⟨y, S', ?_, ?_⟩
      · unfold expE
        rw [ho, List.map_cons, e_loop1 (show gok (some (p, O.lst G)) S from hp), ← q1]
        rw [e_asgN, e_kLoop1]
        simp only [List.set_cons_succ, List.set_cons_zero]
        rw [one, e_ok, e_loop2n]
      · rw [q2]; conv => rhs; unfold evE
        rw [ho]
end Nk66

namespace Nk66
open PySem L2 Nd
variable {n : Nat} {o0 : O} {ds : List D} {e0 e8 e9 e10 e11 e12 e13 e14 : Option D}
def itInv (o0 : O) (ds : List D) (e0 e8 e9 e10 e11 e12 e13 e14 : Option D) (i : Nat) (env : Nd.Env) (S : Store) : Prop := ∃ (L : List It) (R : Store) (t : Int) (p : Nat) (x4 x5 x6 x7 : Option D),
  env = [e0, some (.obj 2), some (bodyD L), some (.obj p), x4, x5, x6, x7, e8, e9, e10, e11, e12, e13, e14] ∧ S = wst o0 ds t R ∧ 0 ≤ t ∧ (wst o0 ds t R)[p]? = some (.lst ((expE L).map Ev.d)) ∧ L.length = i ∧ ∀ x ∈ L, okI x
theorem signs {r : Int} (h0 : 0 ≤ r) (h8 : r < 8) : ∃ s : String, sgn s ∧ atI [D.str "+", .str "-", .str "*", .str "div", .str "mod", .str "==", .str "<", .str "<="] r = some (.str (Str.ofString s)) := by
  have : r = 0 ∨ r = 1 ∨ r = 2 ∨ r = 3 ∨ r = 4 ∨ r = 5 ∨ r = 6 ∨ r = 7 := by omega
  unfold sgn
  rcases this with rfl | rfl | rfl | rfl | rfl | rfl | rfl | rfl
  · exact ⟨"+", by simp, rfl⟩
  · exact ⟨"-", by simp, rfl⟩
  · exact ⟨"*", by simp, rfl⟩
  · exact ⟨"div", by simp, rfl⟩
  · exact ⟨"mod", by simp, rfl⟩
  · exact ⟨"==", by simp, rfl⟩
  · exact ⟨"<", by simp, rfl⟩
  · exact ⟨"<=", by simp, rfl⟩
theorem w_get {t t' : Int} {R : Store} {p : Nat} {l : List D} (h : (wst o0 ds t R)[p]? = some (.lst l)) : (wst o0 ds t' R)[p]? = some (.lst l) := by
  unfold wst at h ⊢
  match p with
  | 0 => exact h
  | 1 => exact h
  | 2 => simp at h
  | p + 3 => exact h
theorem w_app {t : Int} {R : Store} {x : O} : wst o0 ds t R ++ [x] = wst o0 ds t (R ++ [x]) := by unfold wst; simp
theorem expE_len : ∀ L : List It, (expE L).length = L.length + 1
  | [] => rfl
  | (s, l, r) :: L => by unfold expE; rw [List.length_cons, List.length_cons, expE_len L]
theorem expE_cons {s : String} {l r : Int} {L : List It} : expE ((s, l, r) :: L) = evO (outc s l r) :: expE L := rfl
theorem it_step (hg : ∀ d ∈ ds, gd d) {i : Nat} {d : D} {env : Nd.Env} {S : Store} (hi : i < 100) (h : itInv o0 ds e0 e8 e9 e10 e11 e12 e13 e14 i env S) : ∃ env1 env2 S2, Tg.asg (.nm 4) d env = some env1 ∧ itB (sem (n + 19)) env1 S = .ok (.nx, env2) S2 ∧ itInv o0 ds e0 e8 e9 e10 e11 e12 e13 e14 (i + 1) env2 S2 := by
  obtain ⟨L, R, t, p, x4, x5, x6, x7, rfl, rfl, ht, hp, hL, hok⟩ := h
  obtain ⟨r, q1, r0, r8⟩ := x_next (n := n + 17) (o0 := o0) (R := R) (m := 8) hg (by decide) ht
  obtain ⟨s, hs, hat⟩ := signs r0 r8
  obtain ⟨l, t1, q2, ht1, hl⟩ := x_number (n := n + 16) (o0 := o0) (R := R) (t := t + 1) hg (by omega)
  obtain ⟨r', t2, q3, ht2, hr⟩ := x_number (n := n + 16) (o0 := o0) (R := R) (t := t1) hg ht1
  have hG : 1 + ((expE L).map Ev.d).length ≤ 16777216 := by rw [List.length_map, expE_len]; exact bigE (by omega)
  have hp1 := w_get (t' := t2) hp
  have hp2 : (wst o0 ds t2 R ++ [O.lst [(outc s l r').d]])[p]? = some (.lst ((expE L).map Ev.d)) := app_get hp1
  refine ⟨_, [e0, some (.obj 2), some (bodyD ((s, l, r') :: L)), some (.obj (wst o0 ds t2 R ++ [O.lst [(outc s l r').d]]).length), some d, some (.str s), some (.int l), some (.int r'), e8, e9, e10, e11, e12, e13, e14], wst o0 ds t2 R ++ [O.lst [(outc s l r').d]] ++ [O.lst ((outc s l r').d :: (expE L).map Ev.d)], rfl, ?_,
    (s, l, r') :: L, R ++ [O.lst [(outc s l r').d]] ++ [O.lst ((outc s l r').d :: (expE L).map Ev.d)], t2, _, _, _, _, _, rfl, ?_, ht2, ?_, by rw [List.length_cons, hL], ?_⟩
  · unfold itB
    have q4 : ∀ S, sem (n + 19) .l_term [.str s, .int l, .int r'] S = .ok (termD s l r') S := fun S => x_term
    have q5 : ∀ S, sem (n + 19) .l_result [.str s, .int l, .int r'] S = .ok (outc s l r').d S := fun S => x_result hs hl hr
    have q2' : sem (n + 19) .l_number [.obj 2] (wst o0 ds (t + 1) R) = .ok (.int l) (wst o0 ds t1 R) := q2
    have q3' : sem (n + 19) .l_number [.obj 2] (wst o0 ds t1 R) = .ok (.int r') (wst o0 ds t2 R) := q3
    have q1' : sem (n + 19) .l_next [.obj 2, .int 8] (wst o0 ds t R) = .ok (.int r) (wst o0 ds (t + 1) R) := q1
    simp?! [q1', hat, q2', q3', q4, q5, hp2, hG]
    rfl
  · rw [w_app, w_app]
  · rw [← w_app, ← w_app]
    have := app_last (S := wst o0 ds t2 R ++ [O.lst [(outc s l r').d]]) (x := O.lst ((outc s l r').d :: (expE L).map Ev.d))
    rw [this, expE_cons, List.map_cons, evO_d]
  · intro x hx
    rcases List.mem_cons.mp hx with rfl | hx
    · exact ⟨hs, hl, hr⟩
    · exact hok x hx
end Nk66

namespace Nk66
open PySem L2 Nd
theorem run_all (n : Nat) {L : List It} {A : Store} {p : Nat} (hL : L.length < 16) (hok : ∀ x ∈ L, okI x) (hp : A[p]? = some (.lst [])) :
    ∃ (q' : Q), sem (n + 14) .run_code [.tup [.tup [.tup [.int 0, bodyD L]], .int 0], .int 10000, .obj p, .int 4000] A = .ok (.tup [.tup q'.ev, q'.now, .int q'.en.length, .int 0]) (mst A q') ∧ q'.ev = evs L ∧ (evs L).getLast? = some q'.now ∧ q'.en.length = 1 + cnt L := by
  let g : Q := { q0 [(0, bodyD L)] 10000 0 with rest := [.dct []] }
  let c0 : List (Key × D) := putKD [] (.inl ((0 : Nat) : Int)) (.tup [.str "later", bodyD L, .tup [], .int ((0 : Nat) : Int)])
  have hz : lsz [] = 2 := by decide
  have b0 := s_enter_later (q := g) (a := 0) (body := bodyD L) (fs := []) (x := .int ((0 : Nat) : Int)) rfl (by
    show getK c0 (.inl 0) = _
    show getK (putKD [] (.inl 0) _) (.inl 0) = _
    rw [getK_put, if_pos rfl]) (by show c0.length < 16777216; exact big (Nat.lt_of_le_of_lt putKD_len (by decide))) (by show 1 < 16777216; decide) (by show 0 < 16777216; decide)
  rw [hz] at b0
  let c1 := putKD c0 (.inl 0) hole
  have h1 : c1.length ≤ c0.length + 1 := putKD_len
  have h0 : c0.length ≤ 0 + 1 := putKD_len
  have a0 : Steps 1 g (mkQ g (evl (bodyD L)) [sho, upd' 0] c1 (0 + 2 + (2 - 2)) ((1 : Nat) : Int) ((1 : Nat) : Int) [] [.int ((0 : Nat) : Int)]) := S1 (s := "enter") rfl rfl b0
  obtain ⟨k, q', s, l, t1, t2, t3, t4, t5, t6, t7⟩ := trace g L (0 + 2 + (2 - 2)) ((1 : Nat) : Int) ((1 : Nat) : Int) 0 c1 [] [.int ((0 : Nat) : Int)] hok (by show (0 : Int) + 2 + (2 - 2) + 8 * (L.length : Int) + 1 ≤ 10000; omega)
    (fun i hi => by
      show getK (putKD (putKD [] (.inl 0) _) _ _) _ = _
      rw [getK_put, if_neg (kne (by omega)), getK_put, if_neg (kne (by omega)), getK_nil])
    (by show getK (putKD _ _ _) _ = _; rw [getK_put, if_pos rfl]) (by decide) (by omega) (by simp; omega) (by simp; omega)
  have h := x_run (n := n) (A := A) (fl := [(0, bodyD L)]) (main := 0) (room := 10000) (N := 4000) (p := p) hp (by show 1 < 1000; decide) (by decide) (by decide) (by omega) (a0.trans t2) t4 t5
  exact ⟨q', h, by rw [t3]; rfl, t6, by rw [t7]; rfl⟩
theorem hdict : (List.foldl (fun (acc : List (Key × D)) (kv : Key × D) => putKD acc kv.1 kv.2) [] (List.zip [Sum.inr (Str.ofString "draws"), Sum.inr (Str.ofString "at")] [D.obj 1, D.int 0])) = [(.inr "draws", .obj 1), (.inr "at", .int 0)] := by
  simp [putKD, ofString_inj]
theorem law_n (n : Nat) (ns : List Int) (hns : ns.length ≤ 63) : ∃ S, sem (n + 20) .law [.ro (ns.map D.int)] [] = .ok (.bl true) S := by
  obtain ⟨X, ds, hg, hd⟩ := x_draws (n := n + 17) hns
  obtain ⟨m, q1, m0, m15⟩ := x_next (n := n + 17) (o0 := .lst X) (R := [.lst [.tup [.str "end"]]]) (m := 15) (t := 0) hg (by decide) (by decide)
  have q1' : sem (n + 19) .l_next [.obj 2, .int 15] [.lst X, .lst ds, .dct [(.inr "draws", .obj 1), (.inr "at", .int 0)], .lst [.tup [.str "end"]]] = .ok (.int m) (wst (.lst X) ds 1 [.lst [.tup [.str "end"]]]) := q1
  obtain ⟨env', S', e1, L, R, t, p, x4, x5, x6, x7, rfl, rfl, ht, hp, hL, hok⟩ := loopS_inv (t := .nm 4) (mb := itB (sem (n + 19))) (ds := rangeD 0 m.toNat) (itInv (.lst X) ds (some (.ro (ns.map D.int))) none none none none none none none)
    (fun i d env S hd h => it_step (n := n) hg (by have := (List.getElem?_eq_some_iff.mp hd).1; simp [rangeD] at this; omega) h)
    (env := [some (.ro (ns.map D.int)), some (.obj 2), some (bodyD []), some (.obj 3), none, none, none, none, none, none, none, none, none, none, none]) (S := wst (.lst X) ds 1 [.lst [.tup [.str "end"]]])
    ⟨[], [.lst [.tup [.str "end"]]], 1, 3, none, none, none, none, rfl, rfl, by decide, rfl, rfl, by simp⟩
  have hL2 : L.length < 16 := by rw [hL]; simp [rangeD]; omega
  have hr : ∀ S, kRange [.int m] S = .ok (rangeD 0 m.toNat, none) S := fun S => range_ok (by omega) (by omega)
  generalize hS : wst (.lst X) ds t R = S1 at *
  have hp' : (S1 ++ [O.lst []])[p]? = some (.lst ((expE L).map Ev.d)) := app_get hp
  have hps : (S1 ++ [O.lst []])[S1.length]? = some (.lst (([] : List Ev).map Ev.d)) := app_last
  have hne : p ≠ S1.length := Nat.ne_of_lt (List.getElem?_eq_some_iff.mp hp).1
  obtain ⟨y, S2, e2, h2⟩ := sh_loopA (e0 := some (.ro (ns.map D.int))) (e1 := some (.obj 2)) (e2 := some (bodyD L)) (e3 := some (.obj p)) (e4 := x4) (e5 := x5) (e6 := x6) (e7 := x7) (e10 := none) (e11 := none) (e12 := none) (e13 := none) (e14 := none) hne L [] (S1 ++ [O.lst []]) none (.inl rfl) (by simp; omega) hps hp'
  rw [List.nil_append] at h2
  obtain ⟨q', e3, h3, h4, h5⟩ := run_all (n + 5) (A := S2 ++ [O.lst []]) (p := S2.length) hL2 hok app_last
  obtain ⟨bs, f, f1, f2, f3⟩ := evE_last L
  have hev : q'.ev = (evE L).map Ev.d := by rw [h3, evs_E]
  have hnow : q'.now = f.d := by
    rw [evs_E, f1, List.map_append] at h4
    simp at h4
    exact h4.symm
  have hS3 : (mst (S2 ++ [O.lst []]) q')[S1.length]? = some (.lst ((evE L).map Ev.d)) := m_low (app_get h2)
  have hx : atI ((evE L).map Ev.d) (-1) = some f.d := by rw [f1, List.map_append]; exact e_atm
  have hlen : ((evE L).map Ev.d).length = bs.length + 1 := by rw [List.length_map, f1]; simp
  rw [hev, hnow] at e3
  have e3' : sem (n + 19) .run_code [.tup [.tup [.tup [.int 0, bodyD L]], .int 0], .int 10000, .obj S2.length, .int 4000] (S2 ++ [O.lst []]) = .ok (.tup [.tup ((evE L).map Ev.d), f.d, .int q'.en.length, .int 0]) (mst (S2 ++ [O.lst []]) q') := e3
  have e1' : loopS (.nm 4) (itB (sem (n + 19))) none (rangeD 0 m.toNat) [some (.ro (ns.map D.int)), some (.obj 2), some (.tup [.str "con", .int 0, .tup []]), some (.obj 3), none, none, none, none, none, none, none, none, none, none, none] (wst (.lst X) ds 1 [.lst [.tup [.str "end"]]]) = _ := e1
  unfold itB at e1'
  unfold shB at e2
  refine ⟨mst (S2 ++ [O.lst []]) q', ?_⟩
  rw [sem_law]; unfold b_law
  cases hf : isFin L with
  | true =>
    rw [hf] at f2 f3
    have hen : ((q'.en.length : Nat) : Int) = 1 + 2 * (((bs.length + 1 : Nat) : Int) - 1) := by rw [h5, f3]; simp <;> omega
    simp?! [hd, hdict, q1', hr, e1', hp', e2, c_pow4, e3', hS3, eq_tup, hx, eq_ev, eq_en, f2, hlen, hen]
  | false =>
    rw [hf] at f2 f3
    have hen : ((q'.en.length : Nat) : Int) = 2 + 2 * (((bs.length + 1 : Nat) : Int) - 1) := by rw [h5, f3]; simp <;> omega
    simp?! [hd, hdict, q1', hr, e1', hp', e2, c_pow4, e3', hS3, eq_tup, hx, eq_ev, eq_en, f2, hlen, hen]
theorem law_true : ∀ ns : List Int, ns.length ≤ 63 → ∃ S, sem 40 .law [.ro (ns.map D.int)] [] = .ok (.bl true) S := law_n 20
end Nk66

open PySem PySem.W PyProof.Rows in
set_option maxRecDepth 100000 in
set_option maxHeartbeats 0 in
theorem PySem.Challenge.cw_needonce_k66_numbers_that_are_shown_holds : PySem.Challenge.rw_needonce_k66_numbers_that_are_shown.Holds := by
  w_on; o_law; k_head; (case hw => w_witness2)
  k_fill
  refine Nk66.walk (n := 40) Nk66.law_true (by decide) (l := PySem.Challenge.rw_needonce_k66_numbers_that_are_shown) rfl rfl (fun w h Y => PySem.W.kIn_of Y) ?F
  case F =>
    intro w mg fa h KX G hmg
    refine' Nk66.mkTxt KX G hmg ?aC_Heap ?aC_Machine ?a_size_of ?l_size_of ?c_size_of ?k_size_of ?a_Heap_init ?i_Heap_init ?l_Heap_init ?c_Heap_init ?k_Heap_init ?a_Heap_make ?i_Heap_make ?l_Heap_make ?c_Heap_make ?k_Heap_make ?a_Heap_cell ?i_Heap_cell ?l_Heap_cell ?c_Heap_cell ?k_Heap_cell ?a_Heap_put ?i_Heap_put ?l_Heap_put ?c_Heap_put ?k_Heap_put ?a_Heap_fits ?i_Heap_fits ?l_Heap_fits ?c_Heap_fits ?k_Heap_fits ?a_operand_word ?l_operand_word ?c_operand_word ?k_operand_word ?a_operand_words ?l_operand_words ?c_operand_words ?k_operand_words ?a_delayed_size ?l_delayed_size ?c_delayed_size ?k_delayed_size ?a_body_size ?l_body_size ?c_body_size ?k_body_size ?a_arithmetic ?l_arithmetic ?c_arithmetic ?k_arithmetic ?a_compared ?l_compared ?c_compared ?k_compared ?a_chosen_case ?l_chosen_case ?c_chosen_case ?k_chosen_case ?a_chosen_pick ?l_chosen_pick ?c_chosen_pick ?k_chosen_pick ?a_Machine_init ?i_Machine_init ?l_Machine_init ?c_Machine_init ?k_Machine_init ?a_Machine_stopped ?x_Machine_stopped ?y_Machine_stopped ?z_Machine_stopped ?l_Machine_stopped ?c_Machine_stopped ?k_Machine_stopped ?a_Machine_collect ?i_Machine_collect ?l_Machine_collect ?c_Machine_collect ?k_Machine_collect ?a_Machine_has_room ?i_Machine_has_room ?l_Machine_has_room ?c_Machine_has_room ?k_Machine_has_room ?a_Machine_step ?i_Machine_step ?l_Machine_step ?c_Machine_step ?k_Machine_step ?a_Machine_enter ?i_Machine_enter ?l_Machine_enter ?c_Machine_enter ?k_Machine_enter ?a_Machine_make ?i_Machine_make ?l_Machine_make ?c_Machine_make ?k_Machine_make ?a_Machine_make_members ?i_Machine_make_members ?l_Machine_make_members ?c_Machine_make_members ?k_Machine_make_members ?a_Machine_evaluate ?i_Machine_evaluate ?l_Machine_evaluate ?c_Machine_evaluate ?k_Machine_evaluate ?a_Machine_part_of ?i_Machine_part_of ?l_Machine_part_of ?c_Machine_part_of ?k_Machine_part_of ?a_Machine_meeting_size ?i_Machine_meeting_size ?l_Machine_meeting_size ?c_Machine_meeting_size ?k_Machine_meeting_size ?a_Machine_fault ?i_Machine_fault ?l_Machine_fault ?c_Machine_fault ?k_Machine_fault ?a_Machine_meet ?i_Machine_meet ?l_Machine_meet ?c_Machine_meet ?k_Machine_meet ?a_Machine_apply ?i_Machine_apply ?l_Machine_apply ?c_Machine_apply ?k_Machine_apply ?a_Machine_meet_number ?i_Machine_meet_number ?l_Machine_meet_number ?c_Machine_meet_number ?k_Machine_meet_number ?a_Machine_meet_second ?i_Machine_meet_second ?l_Machine_meet_second ?c_Machine_meet_second ?k_Machine_meet_second ?a_Machine_meet_default ?i_Machine_meet_default ?l_Machine_meet_default ?c_Machine_meet_default ?k_Machine_meet_default ?a_Machine_meet_constructor ?i_Machine_meet_constructor ?l_Machine_meet_constructor ?c_Machine_meet_constructor ?k_Machine_meet_constructor ?a_run_code ?l_run_code ?c_run_code ?k_run_code ?a_l_draws ?l_l_draws ?c_l_draws ?k_l_draws ?a_l_next ?l_l_next ?c_l_next ?k_l_next ?a_l_number ?l_l_number ?c_l_number ?k_l_number ?a_l_term ?l_l_term ?c_l_term ?k_l_term ?a_l_result ?l_l_result ?c_l_result ?k_l_result ?a_law ?l_law ?c_law ?k_law ?pg_Heap ?hd_Heap ?po_Heap ?sa_Heap ?mk_Heap ?kc_Heap ?n_Heap__cells ?n_Heap_next_address ?n_Heap_room ?n_Heap_used ?pg_Machine ?hd_Machine ?po_Machine ?sa_Machine ?mk_Machine ?kc_Machine ?n_Machine_collections ?n_Machine_entered ?n_Machine_events ?n_Machine_functions ?n_Machine_heap ?n_Machine_now ?n_Machine_serial ?n_Machine_stack ?z_abs ?z_enumerate ?z_int ?z_len ?z_max ?z_range ?z_sum ?z_tuple ?u_CONTAINERS ?q_CONTAINERS ?u_ENDS ?q_ENDS ?u_LARGEST
    (case aC_Heap => k_is)
    (case aC_Machine => k_is)
    (case a_size_of => k_is)
    (case l_size_of => k_is)
    (case c_size_of => k_is)
    (case k_size_of => k_is)
    (case a_Heap_init => k_is)
    (case i_Heap_init => k_is)
    (case l_Heap_init => k_is)
    (case c_Heap_init => k_is)
    (case k_Heap_init => k_is)
    (case a_Heap_make => k_is)
    (case i_Heap_make => k_is)
    (case l_Heap_make => k_is)
    (case c_Heap_make => k_is)
    (case k_Heap_make => k_is)
    (case a_Heap_cell => k_is)
    (case i_Heap_cell => k_is)
    (case l_Heap_cell => k_is)
    (case c_Heap_cell => k_is)
    (case k_Heap_cell => k_is)
    (case a_Heap_put => k_is)
    (case i_Heap_put => k_is)
    (case l_Heap_put => k_is)
    (case c_Heap_put => k_is)
    (case k_Heap_put => k_is)
    (case a_Heap_fits => k_is)
    (case i_Heap_fits => k_is)
    (case l_Heap_fits => k_is)
    (case c_Heap_fits => k_is)
    (case k_Heap_fits => k_is)
    (case a_operand_word => k_is)
    (case l_operand_word => k_is)
    (case c_operand_word => k_is)
    (case k_operand_word => k_is)
    (case a_operand_words => k_is)
    (case l_operand_words => k_is)
    (case c_operand_words => k_is)
    (case k_operand_words => k_is)
    (case a_delayed_size => k_is)
    (case l_delayed_size => k_is)
    (case c_delayed_size => k_is)
    (case k_delayed_size => k_is)
    (case a_body_size => k_is)
    (case l_body_size => k_is)
    (case c_body_size => k_is)
    (case k_body_size => k_is)
    (case a_arithmetic => k_is)
    (case l_arithmetic => k_is)
    (case c_arithmetic => k_is)
    (case k_arithmetic => k_is)
    (case a_compared => k_is)
    (case l_compared => k_is)
    (case c_compared => k_is)
    (case k_compared => k_is)
    (case a_chosen_case => k_is)
    (case l_chosen_case => k_is)
    (case c_chosen_case => k_is)
    (case k_chosen_case => k_is)
    (case a_chosen_pick => k_is)
    (case l_chosen_pick => k_is)
    (case c_chosen_pick => k_is)
    (case k_chosen_pick => k_is)
    (case a_Machine_init => k_is)
    (case i_Machine_init => k_is)
    (case l_Machine_init => k_is)
    (case c_Machine_init => k_is)
    (case k_Machine_init => k_is)
    (case a_Machine_stopped => k_is)
    (case x_Machine_stopped => k_is)
    (case y_Machine_stopped => k_is)
    (case z_Machine_stopped => k_is)
    (case l_Machine_stopped => k_is)
    (case c_Machine_stopped => k_is)
    (case k_Machine_stopped => k_is)
    (case a_Machine_collect => k_is)
    (case i_Machine_collect => k_is)
    (case l_Machine_collect => k_is)
    (case c_Machine_collect => k_is)
    (case k_Machine_collect => k_is)
    (case a_Machine_has_room => k_is)
    (case i_Machine_has_room => k_is)
    (case l_Machine_has_room => k_is)
    (case c_Machine_has_room => k_is)
    (case k_Machine_has_room => k_is)
    (case a_Machine_step => k_is)
    (case i_Machine_step => k_is)
    (case l_Machine_step => k_is)
    (case c_Machine_step => k_is)
    (case k_Machine_step => k_is)
    (case a_Machine_enter => k_is)
    (case i_Machine_enter => k_is)
    (case l_Machine_enter => k_is)
    (case c_Machine_enter => k_is)
    (case k_Machine_enter => k_is)
    (case a_Machine_make => k_is)
    (case i_Machine_make => k_is)
    (case l_Machine_make => k_is)
    (case c_Machine_make => k_is)
    (case k_Machine_make => k_is)
    (case a_Machine_make_members => k_is)
    (case i_Machine_make_members => k_is)
    (case l_Machine_make_members => k_is)
    (case c_Machine_make_members => k_is)
    (case k_Machine_make_members => k_is)
    (case a_Machine_evaluate => k_is)
    (case i_Machine_evaluate => k_is)
    (case l_Machine_evaluate => k_is)
    (case c_Machine_evaluate => k_is)
    (case k_Machine_evaluate => k_is)
    (case a_Machine_part_of => k_is)
    (case i_Machine_part_of => k_is)
    (case l_Machine_part_of => k_is)
    (case c_Machine_part_of => k_is)
    (case k_Machine_part_of => k_is)
    (case a_Machine_meeting_size => k_is)
    (case i_Machine_meeting_size => k_is)
    (case l_Machine_meeting_size => k_is)
    (case c_Machine_meeting_size => k_is)
    (case k_Machine_meeting_size => k_is)
    (case a_Machine_fault => k_is)
    (case i_Machine_fault => k_is)
    (case l_Machine_fault => k_is)
    (case c_Machine_fault => k_is)
    (case k_Machine_fault => k_is)
    (case a_Machine_meet => k_is)
    (case i_Machine_meet => k_is)
    (case l_Machine_meet => k_is)
    (case c_Machine_meet => k_is)
    (case k_Machine_meet => k_is)
    (case a_Machine_apply => k_is)
    (case i_Machine_apply => k_is)
    (case l_Machine_apply => k_is)
    (case c_Machine_apply => k_is)
    (case k_Machine_apply => k_is)
    (case a_Machine_meet_number => k_is)
    (case i_Machine_meet_number => k_is)
    (case l_Machine_meet_number => k_is)
    (case c_Machine_meet_number => k_is)
    (case k_Machine_meet_number => k_is)
    (case a_Machine_meet_second => k_is)
    (case i_Machine_meet_second => k_is)
    (case l_Machine_meet_second => k_is)
    (case c_Machine_meet_second => k_is)
    (case k_Machine_meet_second => k_is)
    (case a_Machine_meet_default => k_is)
    (case i_Machine_meet_default => k_is)
    (case l_Machine_meet_default => k_is)
    (case c_Machine_meet_default => k_is)
    (case k_Machine_meet_default => k_is)
    (case a_Machine_meet_constructor => k_is)
    (case i_Machine_meet_constructor => k_is)
    (case l_Machine_meet_constructor => k_is)
    (case c_Machine_meet_constructor => k_is)
    (case k_Machine_meet_constructor => k_is)
    (case a_run_code => k_is)
    (case l_run_code => k_is)
    (case c_run_code => k_is)
    (case k_run_code => k_is)
    (case a_l_draws => k_is)
    (case l_l_draws => k_is)
    (case c_l_draws => k_is)
    (case k_l_draws => k_is)
    (case a_l_next => k_is)
    (case l_l_next => k_is)
    (case c_l_next => k_is)
    (case k_l_next => k_is)
    (case a_l_number => k_is)
    (case l_l_number => k_is)
    (case c_l_number => k_is)
    (case k_l_number => k_is)
    (case a_l_term => k_is)
    (case l_l_term => k_is)
    (case c_l_term => k_is)
    (case k_l_term => k_is)
    (case a_l_result => k_is)
    (case l_l_result => k_is)
    (case c_l_result => k_is)
    (case k_l_result => k_is)
    (case a_law => k_is)
    (case l_law => k_is)
    (case c_law => k_is)
    (case k_law => k_is)
    (case pg_Heap => k_is)
    (case hd_Heap => k_is)
    (case po_Heap => k_is)
    (case sa_Heap => k_is)
    (case mk_Heap => k_is)
    (case kc_Heap => k_is)
    (case n_Heap__cells => k_is)
    (case n_Heap_next_address => k_is)
    (case n_Heap_room => k_is)
    (case n_Heap_used => k_is)
    (case pg_Machine => k_is)
    (case hd_Machine => k_is)
    (case po_Machine => k_is)
    (case sa_Machine => k_is)
    (case mk_Machine => k_is)
    (case kc_Machine => k_is)
    (case n_Machine_collections => k_is)
    (case n_Machine_entered => k_is)
    (case n_Machine_events => k_is)
    (case n_Machine_functions => k_is)
    (case n_Machine_heap => k_is)
    (case n_Machine_now => k_is)
    (case n_Machine_serial => k_is)
    (case n_Machine_stack => k_is)
    (case z_abs => k_is)
    (case z_enumerate => k_is)
    (case z_int => k_is)
    (case z_len => k_is)
    (case z_max => k_is)
    (case z_range => k_is)
    (case z_sum => k_is)
    (case z_tuple => k_is)
    (case u_CONTAINERS => k_is)
    (case q_CONTAINERS => k_is)
    (case u_ENDS => k_is)
    (case q_ENDS => k_is)
    (case u_LARGEST => k_is)
