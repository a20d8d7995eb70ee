import PyProof.Rows.All
import Wide.All
import OpenK.AllK
import Wide.FinOn
import HandS.ForMost
import HandS.IsInst
import HandS.RaiseMore
import HandS.Wide
import HandS.TupAny
import KE.SortData
import OpenK.KMore
import PySem.Challenge.RW_throughdoors_k92_tables_in_lines
set_option Elab.async false
set_option linter.all false
set_option maxRecDepth 100000
set_option maxHeartbeats 4000000
/-! DLa: values as trees (tuples by value), a store of mutable objects by number, what stands for what. -/
namespace DL
open PySem PySem.Spec PyProof.Rows L2

/-- a value: tuples by value; lists that are only read, by value (lit); mutable objects by their number in the store -/
inductive W where
  | non | bl (b : Bool) | int (i : Int) | str (x : Str) | tup (ws : List W) | lit (ws : List W) | ref (i : Nat) | raw (v : V)

/-- an object of the store -/
inductive O where
  | lst (ws : List W)
  | dk (kvs : List (Key × W))

abbrev Sto := List O
abbrev Slots := List (Option W)
abbrev Fg := PySem.W.Frag

/-- a list that nobody writes: of the module, or locked -/
def LitAt (K : Fg) (H : Hp) (a : Addr) (xs : List V) : Prop := SqL K H a xs ∧ ((∃ o, H a = some (.frz o (.lst xs))) ∨ ∀ H', SqL K H' a xs)

mutual
inductive Rep (K : Fg) (r : List Addr) (H : Hp) : V → W → Prop
  | non : Rep K r H .non .non
  | bl (b : Bool) : Rep K r H (.bl b) (.bl b)
  | int (i : Int) : Rep K r H (.int i) (.int i)
  | str (x : Str) : Rep K r H (.str x) (.str x)
  | tup {a : Addr} {xs : List V} {ws : List W} : SqT K H a xs → RepL K r H xs ws → Rep K r H (.ref a) (.tup ws)
  | lit {a : Addr} {xs : List V} {ws : List W} : LitAt K H a xs → RepL K r H xs ws → Rep K r H (.ref a) (.lit ws)
  | ref {a : Addr} {i : Nat} : r[i]? = some a → Rep K r H (.ref a) (.ref i)
  | raw (v : V) : Rep K r H v (.raw v)
inductive RepL (K : Fg) (r : List Addr) (H : Hp) : List V → List W → Prop
  | nil : RepL K r H [] []
  | cons {v : V} {vs : List V} {w : W} {ws : List W} : Rep K r H v w → RepL K r H vs ws → RepL K r H (v :: vs) (w :: ws)
end

def RelKV (K : Fg) (r : List Addr) (H : Hp) (vs : List (Key × V)) (ws : List (Key × W)) : Prop := vs.map (·.1) = ws.map (·.1) ∧ RepL K r H (vs.map (·.2)) (ws.map (·.2))
def RelO (K : Fg) (r : List Addr) (H : Hp) (a : Addr) : O → Prop
  | .lst ws => ∃ xs, H a = some (.lst xs) ∧ RepL K r H xs ws
  | .dk ws => ∃ vs, H a = some (.dK vs) ∧ RelKV K r H vs ws

structure RelS (K : Fg) (r : List Addr) (H : Hp) (S : Sto) : Prop where
  len : r.length = S.length
  nd : r.Nodup
  obj : ∀ (i : Nat) (a : Addr) (o : O), r[i]? = some a → S[i]? = some o → RelO K r H a o

/-- what readings lean on -/
structure Kp (K : Fg) (r : List Addr) (H : Hp) (r' : List Addr) (H' : Hp) : Prop where
  pre : ∀ (i : Nat) (a : Addr), r[i]? = some a → r'[i]? = some a
  tup : ∀ (b : Addr) (xs : List V), SqT K H b xs → SqT K H' b xs
  frz : ∀ (b : Addr) (o : Obj) (u : HO), H b = some (.frz o u) → H' b = some (.frz o u)
structure Ext (K : Fg) (r : List Addr) (H : Hp) (r' : List Addr) (H' : Hp) : Prop extends Kp K r H r' H' where
  oth : ∀ (b : Addr) (o : HO), H b = some o → b ∉ r → H' b = some o
  new : ∀ b ∈ r', b ∉ r → H b = none

theorem Ext.refl {K : Fg} {r : List Addr} {H : Hp} : Ext K r H r H :=
  ⟨⟨fun _ _ h => h, fun _ _ h => h, fun _ _ _ h => h⟩, fun _ _ h _ => h, fun _ h h' => (h' h).elim⟩
theorem Ext.trans {K : Fg} {r r1 r2 : List Addr} {H H1 H2 : Hp} (a : Ext K r H r1 H1) (b : Ext K r1 H1 r2 H2) : Ext K r H r2 H2 := by
  refine ⟨⟨fun i x h => b.pre i x (a.pre i x h), fun c xs h => b.tup c xs (a.tup c xs h), fun c o u h => b.frz c o u (a.frz c o u h)⟩, fun c o h n => ?_, fun c hc n => ?_⟩
  · refine b.oth c o (a.oth c o h n) fun m => ?_
    rw [a.new c m n] at h
    cases h
  · by_cases m : c ∈ r1
    · exact a.new c m n
    · have e := b.new c hc m
      cases q : H c with
      | none => rfl
      | some o =>
        rw [a.oth c o q n] at e
        cases e

theorem LitAt.mono {K : Fg} {r r' : List Addr} {H H' : Hp} {a : Addr} {xs : List V} (e : Kp K r H r' H') (h : LitAt K H a xs) : LitAt K H' a xs := by
  obtain ⟨h1, h2⟩ := h
  rcases h2 with ⟨o, q⟩ | q
  · exact ⟨.inl (.inr ⟨o, e.frz _ _ _ q⟩), .inl ⟨o, e.frz _ _ _ q⟩⟩
  · exact ⟨q H', .inr q⟩

section
variable {K : Fg} {r r' : List Addr} {H H' : Hp}
mutual
theorem Rep.mono' (e : Kp K r H r' H') : ∀ {v : V} {w : W}, Rep K r H v w → Rep K r' H' v w
  | _, _, .non => .non
  | _, _, .bl b => .bl b
  | _, _, .int i => .int i
  | _, _, .str x => .str x
  | _, _, .tup h l => .tup (e.tup _ _ h) (RepL.mono' e l)
  | _, _, .lit h l => .lit (h.mono e) (RepL.mono' e l)
  | _, _, .ref h => .ref (e.pre _ _ h)
  | _, _, .raw v => .raw v
theorem RepL.mono' (e : Kp K r H r' H') : ∀ {vs : List V} {ws : List W}, RepL K r H vs ws → RepL K r' H' vs ws
  | _, _, .nil => .nil
  | _, _, .cons h l => .cons (Rep.mono' e h) (RepL.mono' e l)
end
theorem Rep.mono (e : Ext K r H r' H') {v : V} {w : W} (h : Rep K r H v w) : Rep K r' H' v w := h.mono' e.toKp
theorem RepL.mono (e : Ext K r H r' H') {vs : List V} {ws : List W} (h : RepL K r H vs ws) : RepL K r' H' vs ws := h.mono' e.toKp
end

section
variable {K : Fg} {r : List Addr} {H : Hp} {S : Sto}
theorem RepL.length : ∀ {vs : List V} {ws : List W}, RepL K r H vs ws → vs.length = ws.length
  | _, _, .nil => rfl
  | _, _, .cons _ l => congrArg (· + 1) (RepL.length l)
theorem RepL.get : ∀ {vs : List V} {ws : List W} {i : Nat} {w : W}, RepL K r H vs ws → ws[i]? = some w → ∃ v, vs[i]? = some v ∧ Rep K r H v w
  | _, _, _, _, .nil, h => by simp at h
  | _, _, 0, _, .cons q _, h => by
    have e := Option.some.inj h
    subst e
    exact ⟨_, rfl, q⟩
  | _, _, i + 1, w, .cons _ l, h => RepL.get (i := i) l h
theorem RepL.getV : ∀ {vs : List V} {ws : List W} {i : Nat} {v : V}, RepL K r H vs ws → vs[i]? = some v → ∃ w, ws[i]? = some w ∧ Rep K r H v w
  | _, _, _, _, .nil, h => by simp at h
  | _, _, 0, _, .cons q _, h => by
    have e := Option.some.inj h
    subst e
    exact ⟨_, rfl, q⟩
  | _, _, i + 1, w, .cons _ l, h => RepL.getV (i := i) l h
theorem RepL.app : ∀ {vs us : List V} {ws xs : List W}, RepL K r H vs ws → RepL K r H us xs → RepL K r H (vs ++ us) (ws ++ xs)
  | _, _, _, _, .nil, h => h
  | _, _, _, _, .cons q l, h => .cons q (RepL.app l h)
theorem RepL.one {v : V} {w : W} (h : Rep K r H v w) : RepL K r H [v] [w] := .cons h .nil
theorem RepL.take : ∀ {vs : List V} {ws : List W} (n : Nat), RepL K r H vs ws → RepL K r H (vs.take n) (ws.take n)
  | _, _, 0, _ => .nil
  | _, _, _ + 1, .nil => .nil
  | _, _, n + 1, .cons q l => .cons q (RepL.take n l)
theorem RepL.drop : ∀ {vs : List V} {ws : List W} (n : Nat), RepL K r H vs ws → RepL K r H (vs.drop n) (ws.drop n)
  | _, _, 0, h => h
  | _, _, _ + 1, .nil => .nil
  | _, _, n + 1, .cons _ l => RepL.drop n l
theorem RepL.set {v : V} {w : W} (h : Rep K r H v w) : ∀ {vs : List V} {ws : List W} (i : Nat), RepL K r H vs ws → RepL K r H (vs.set i v) (ws.set i w)
  | _, _, _, .nil => .nil
  | _, _, 0, .cons _ l => .cons h l
  | _, _, i + 1, .cons q l => .cons q (RepL.set h i l)
theorem RepL.dropLast : ∀ {vs : List V} {ws : List W}, RepL K r H vs ws → RepL K r H vs.dropLast ws.dropLast
  | _, _, .nil => .nil
  | _, _, .cons q .nil => .nil
  | _, _, .cons q (.cons q' l) => .cons q (RepL.dropLast (.cons q' l))
theorem RepL.eraseIdx : ∀ {vs : List V} {ws : List W} (i : Nat), RepL K r H vs ws → RepL K r H (vs.eraseIdx i) (ws.eraseIdx i)
  | _, _, _, .nil => .nil
  | _, _, 0, .cons _ l => l
  | _, _, i + 1, .cons q l => .cons q (RepL.eraseIdx i l)
theorem RepL.rev : ∀ {vs : List V} {ws : List W}, RepL K r H vs ws → RepL K r H vs.reverse ws.reverse
  | _, _, .nil => .nil
  | _, _, .cons q l => by
    rw [List.reverse_cons, List.reverse_cons]
    exact RepL.app (RepL.rev l) (.one q)

theorem RelS.lt (R : RelS K r H S) {i : Nat} {a : Addr} (h : r[i]? = some a) : i < S.length := by
  rw [← R.len]
  exact (List.getElem?_eq_some_iff.mp h).1
theorem RelS.at (R : RelS K r H S) {i : Nat} {o : O} (h : S[i]? = some o) : ∃ a, r[i]? = some a ∧ RelO K r H a o := by
  have l : i < r.length := by
    rw [R.len]
    exact (List.getElem?_eq_some_iff.mp h).1
  exact ⟨r[i], List.getElem?_eq_getElem l, R.obj i _ o (List.getElem?_eq_getElem l) h⟩
theorem RelS.ix (R : RelS K r H S) {i j : Nat} {a : Addr} (h : r[i]? = some a) (h' : r[j]? = some a) : i = j := by
  obtain ⟨h1, e1⟩ := List.getElem?_eq_some_iff.mp h
  obtain ⟨h2, e2⟩ := List.getElem?_eq_some_iff.mp h'
  exact (List.getElem_inj R.nd).mp (e1.trans e2.symm)

theorem sqT_upd {p : Addr} {o : HO} (h : H p = none) : ∀ b xs, SqT K H b xs → SqT K (upd H p o) b xs := fun b xs q => by
  rcases q with (q | ⟨u, q⟩) | q
  · exact .inl (.inl (by rw [upd_ne (ne_of_none q h)]; exact q))
  · exact .inl (.inr ⟨u, by rw [upd_ne (ne_of_none q h)]; exact q⟩)
  · exact .inr q
/-- what may be written: no tuple, nothing locked -/
def Soft : HO → Prop
  | .lst _ => True
  | .dK _ => True
  | _ => False
theorem sqT_wr {p : Addr} {o u : HO} (h : H p = some u) (m : Soft u) : ∀ b xs, SqT K H b xs → SqT K (upd H p o) b xs := fun b xs q => by
  rcases q with (q | ⟨v, q⟩) | q
  · exact .inl (.inl (by rw [upd_ne (ne_of q h (by intro z; rw [← z] at m; exact m))]; exact q))
  · exact .inl (.inr ⟨v, by rw [upd_ne (ne_of q h (by intro z; rw [← z] at m; exact m))]; exact q⟩)
  · exact .inr q
theorem RelO.soft {a : Addr} {o : O} (x : RelO K r H a o) : ∃ u, H a = some u ∧ Soft u := by
  cases o with
  | lst ws =>
    obtain ⟨xs, h1, h2⟩ := x
    exact ⟨_, h1, trivial⟩
  | dk ws =>
    obtain ⟨xs, h1, h2⟩ := x
    exact ⟨_, h1, trivial⟩
theorem relO_mono' {r' : List Addr} {H' : Hp} {a : Addr} {o : O} (e : Kp K r H r' H') (hl : H' a = H a) (x : RelO K r H a o) : RelO K r' H' a o := by
  cases o with
  | lst ws =>
    obtain ⟨xs, h1, h2⟩ := x
    exact ⟨xs, by rw [hl]; exact h1, h2.mono' e⟩
  | dk ws =>
    obtain ⟨xs, h1, h2, h3⟩ := x
    exact ⟨xs, by rw [hl]; exact h1, h2, h3.mono' e⟩
theorem relO_mono {r' : List Addr} {H' : Hp} {a : Addr} {o : O} (e : Ext K r H r' H') (hl : H' a = H a) (x : RelO K r H a o) : RelO K r' H' a o := relO_mono' e.toKp hl x
theorem RelS.there (R : RelS K r H S) {i : Nat} {a : Addr} (ha : r[i]? = some a) : ∃ u, H a = some u ∧ Soft u := by
  have l := R.lt ha
  exact (R.obj i a _ ha (List.getElem?_eq_getElem l)).soft
theorem RelS.notin (R : RelS K r H S) {p : Addr} (h : H p = none) : p ∉ r := fun m => by
  obtain ⟨i, l, e⟩ := List.mem_iff_getElem.mp m
  obtain ⟨u, q, _⟩ := R.there (i := i) (a := p) (by rw [List.getElem?_eq_getElem l, e])
  rw [h] at q
  cases q
/-- a new object that is no member of the store (a tuple, ..) -/
theorem ext_new {p : Addr} {o : HO} (h : H p = none) : Ext K r H r (upd H p o) :=
  ⟨⟨fun _ _ q => q, sqT_upd h, fun b o u q => by rw [upd_ne (ne_of_none q h)]; exact q⟩, fun b u q _ => by rw [upd_ne (ne_of_none q h)]; exact q, fun _ q n => (n q).elim⟩
theorem rel_new (R : RelS K r H S) {p : Addr} {o : HO} (h : H p = none) : RelS K r (upd H p o) S :=
  ⟨R.len, R.nd, fun i a ob ha hs => by
    obtain ⟨u, q, _⟩ := R.there ha
    exact relO_mono (ext_new h) (upd_ne (ne_of_none q h)) (R.obj i a ob ha hs)⟩
theorem rep_tup {p : Addr} {xs : List V} {ws : List W} (h : H p = none) (l : RepL K r H xs ws) : Rep K r (upd H p (.tup xs)) (.ref p) (.tup ws) :=
  .tup (.of upd_same) (l.mono (ext_new h))
/-- a new object, a member of the store -/
theorem ext_mem {p : Addr} {u : HO} (h : H p = none) : Ext K r H (r ++ [p]) (upd H p u) := by
  refine ⟨⟨fun i a q => ?_, sqT_upd h, fun b o u q => by rw [upd_ne (ne_of_none q h)]; exact q⟩, fun b u q _ => by rw [upd_ne (ne_of_none q h)]; exact q, fun b q n => ?_⟩
  · rw [List.getElem?_append_left (List.getElem?_eq_some_iff.mp q).1]
    exact q
  · rcases List.mem_append.mp q with m | m
    · exact (n m).elim
    · rw [List.mem_singleton.mp m]
      exact h
theorem rel_mem (R : RelS K r H S) {p : Addr} {u : HO} {o : O} (h : H p = none) (x : RelO K (r ++ [p]) (upd H p u) p o) : RelS K (r ++ [p]) (upd H p u) (S ++ [o]) := by
  refine ⟨by rw [List.length_append, List.length_append, R.len]; rfl, ?_, fun i a ob ha hs => ?_⟩
  · rw [List.nodup_append]
    refine ⟨R.nd, List.nodup_cons.mpr ⟨List.not_mem_nil, List.nodup_nil⟩, fun a ha b hb e => ?_⟩
    rw [List.mem_singleton.mp hb] at e
    exact R.notin h (e ▸ ha)
  · by_cases l : i < r.length
    · rw [List.getElem?_append_left l] at ha
      rw [List.getElem?_append_left (by rw [← R.len]; exact l)] at hs
      obtain ⟨v, q, _⟩ := R.there ha
      exact relO_mono (ext_mem h) (upd_ne (ne_of_none q h)) (R.obj i a ob ha hs)
    · rw [List.getElem?_append_right (Nat.le_of_not_lt l)] at ha
      rw [List.getElem?_append_right (by rw [← R.len]; exact Nat.le_of_not_lt l), ← R.len] at hs
      cases e : i - r.length with
      | zero =>
        rw [e] at ha hs
        have e1 : p = a := Option.some.inj ha
        have e2 : o = ob := Option.some.inj hs
        rw [← e1, ← e2]
        exact x
      | succ n =>
        rw [e] at ha
        simp at ha
theorem rep_mem (R : RelS K r H S) {p : Addr} {H' : Hp} : Rep K (r ++ [p]) H' (.ref p) (.ref S.length) := .ref (by rw [← R.len, List.getElem?_concat_length])
theorem new_lst (R : RelS K r H S) {p : Addr} {xs : List V} {ws : List W} (h : H p = none) (l : RepL K r H xs ws) : RelS K (r ++ [p]) (upd H p (.lst xs)) (S ++ [.lst ws]) :=
  rel_mem R h ⟨xs, upd_same, l.mono (ext_mem h)⟩
/-- a member of the store is written -/
theorem ext_wr {i : Nat} {p : Addr} {u u' : HO} (hp : r[i]? = some p) (h : H p = some u) (m : Soft u) : Ext K r H r (upd H p u') :=
  ⟨⟨fun _ _ q => q, sqT_wr h m, fun b o v q => by rw [upd_ne (ne_of q h (by intro z; rw [← z] at m; exact m))]; exact q⟩, fun b o q n => by rw [upd_ne (fun e => n (by rw [e]; exact List.mem_of_getElem? hp))]; exact q, fun _ q n => (n q).elim⟩
theorem rel_wr (R : RelS K r H S) {i : Nat} {p : Addr} {u u' : HO} {o : O} (hp : r[i]? = some p) (h : H p = some u) (m : Soft u) (x : RelO K r (upd H p u') p o) : RelS K r (upd H p u') (S.set i o) := by
  refine ⟨by rw [List.length_set]; exact R.len, R.nd, fun j a ob ha hs => ?_⟩
  by_cases e : j = i
  · subst e
    rw [hp] at ha
    have e1 := Option.some.inj ha
    subst e1
    rw [List.getElem?_set_self (R.lt hp)] at hs
    have e2 := Option.some.inj hs
    subst e2
    exact x
  · rw [List.getElem?_set_ne (Ne.symm e)] at hs
    have ne : a ≠ p := fun z => e (R.ix ha (z ▸ hp))
    exact relO_mono (ext_wr hp h m) (upd_ne ne) (R.obj j a ob ha hs)
theorem wr_lst (R : RelS K r H S) {i : Nat} {p : Addr} {xs xs' : List V} {ws' : List W} (hp : r[i]? = some p) (h : H p = some (.lst xs)) (l : RepL K r H xs' ws') : RelS K r (upd H p (.lst xs')) (S.set i (.lst ws')) :=
  rel_wr R hp h trivial ⟨xs', upd_same, l.mono (ext_wr hp h trivial)⟩

/-- an object apart from the store -/
theorem Ext.apart {r' : List Addr} {H' : Hp} {D : Addr} {o : HO} (e : Ext K r H r' H') (n : D ∉ r) (h : H D = some o) : D ∉ r' ∧ H' D = some o :=
  ⟨fun m => (ne_of_none h (e.new D m n)) rfl, e.oth D o h n⟩
theorem Kp.hid {D : Addr} {o u : HO} (h : H D = some u) (m : Soft u) : Kp K r H r (upd H D o) :=
  ⟨fun _ _ q => q, sqT_wr h m, fun b ob v q => by rw [upd_ne (ne_of q h (by intro z; rw [← z] at m; exact m))]; exact q⟩
theorem Ext.hid {r' : List Addr} {H' : Hp} {D : Addr} {o u : HO} (e : Ext K r H r' H') (h0 : H D = none) (h : H' D = some u) (m : Soft u) : Ext K r H r' (upd H' D o) :=
  ⟨⟨e.pre, fun b xs q => sqT_wr h m b xs (e.tup b xs q), fun b ob v q => (Kp.hid (K := K) (r := r) h m).frz b ob v (e.frz b ob v q)⟩, fun b ob q n => by rw [upd_ne (ne_of_none q h0)]; exact e.oth b ob q n, e.new⟩
theorem RelS.hid (R : RelS K r H S) {D : Addr} {o u : HO} (n : D ∉ r) (h : H D = some u) (m : Soft u) : RelS K r (upd H D o) S :=
  ⟨R.len, R.nd, fun i a ob ha hs => relO_mono' (Kp.hid h m) (upd_ne fun e => n (by rw [← e]; exact List.mem_of_getElem? ha)) (R.obj i a ob ha hs)⟩
theorem Ext.join {r' : List Addr} {H' : Hp} {D : Addr} (e : Ext K r H r' H') (h0 : H D = none) : Ext K r H (r' ++ [D]) H' :=
  ⟨⟨fun i a q => by
    have q' := e.pre i a q
    rw [List.getElem?_append_left (List.getElem?_eq_some_iff.mp q').1]
    exact q', e.tup, e.frz⟩, e.oth, fun b q n => by
    rcases List.mem_append.mp q with m | m
    · exact e.new b m n
    · rw [List.mem_singleton.mp m]
      exact h0⟩
theorem Kp.join {D : Addr} : Kp K r H (r ++ [D]) H :=
  ⟨fun i a q => by
    rw [List.getElem?_append_left (List.getElem?_eq_some_iff.mp q).1]
    exact q, fun _ _ q => q, fun _ _ _ q => q⟩
theorem RelS.join (R : RelS K r H S) {D : Addr} {xs : List V} {ws : List W} (n : D ∉ r) (h : H D = some (.lst xs)) (l : RepL K r H xs ws) : RelS K (r ++ [D]) H (S ++ [.lst ws]) := by
  refine ⟨by rw [List.length_append, List.length_append, R.len]; rfl, ?_, fun i a ob ha hs => ?_⟩
  · rw [List.nodup_append]
    refine ⟨R.nd, List.nodup_cons.mpr ⟨List.not_mem_nil, List.nodup_nil⟩, fun a ha b hb e => ?_⟩
    rw [List.mem_singleton.mp hb] at e
    exact n (e ▸ ha)
  · by_cases l' : i < r.length
    · rw [List.getElem?_append_left l'] at ha
      rw [List.getElem?_append_left (by rw [← R.len]; exact l')] at hs
      exact relO_mono' Kp.join rfl (R.obj i a ob ha hs)
    · rw [List.getElem?_append_right (Nat.le_of_not_lt l')] at ha
      rw [List.getElem?_append_right (by rw [← R.len]; exact Nat.le_of_not_lt l'), ← R.len] at hs
      cases e : i - r.length with
      | zero =>
        rw [e] at ha hs
        have e1 : D = a := Option.some.inj ha
        have e2 : O.lst ws = ob := Option.some.inj hs
        rw [← e1, ← e2]
        exact ⟨xs, h, l.mono' Kp.join⟩
      | succ n =>
        rw [e] at ha
        simp at ha

/-- the slots -/
def RepE (K : Fg) (r : List Addr) (H : Hp) (s : L2.St) (env : Slots) : Prop := s.length = env.length ∧ ∀ (i : Nat) (w : W), env[i]? = some (some w) → ∃ v, s[i]? = some (some v) ∧ Rep K r H v w
theorem RepE.mono {r' : List Addr} {H' : Hp} {s : L2.St} {env : Slots} (e : Ext K r H r' H') (h : RepE K r H s env) : RepE K r' H' s env :=
  ⟨h.1, fun i w q => by
    obtain ⟨v, a, b⟩ := h.2 i w q
    exact ⟨v, a, b.mono e⟩⟩
theorem RepE.set {s : L2.St} {env : Slots} {v : V} {w : W} (h : RepE K r H s env) (q : Rep K r H v w) (i : Nat) : RepE K r H (s.set i (some v)) (env.set i (some w)) := by
  refine ⟨by rw [List.length_set, List.length_set]; exact h.1, fun j x e => ?_⟩
  by_cases hj : j = i
  · subst hj
    have l : j < env.length := by
      have := (List.getElem?_eq_some_iff.mp e).1
      rw [List.length_set] at this
      exact this
    rw [List.getElem?_set_self l] at e
    have e1 := Option.some.inj (Option.some.inj e)
    subst e1
    exact ⟨v, List.getElem?_set_self (by rw [h.1]; exact l), q⟩
  · rw [List.getElem?_set_ne (Ne.symm hj)] at e
    obtain ⟨u, a, b⟩ := h.2 j x e
    exact ⟨u, by rw [List.getElem?_set_ne (Ne.symm hj)]; exact a, b⟩
def wipeW (env : Slots) : List Nat → Slots
  | [] => env
  | v :: vs => (wipeW env vs).set v none
theorem RepE.nil {s : L2.St} {env : Slots} (h : RepE K r H s env) (i : Nat) : RepE K r H (s.set i none) (env.set i none) := by
  refine ⟨by rw [List.length_set, List.length_set]; exact h.1, fun j x e => ?_⟩
  by_cases hj : j = i
  · subst hj
    have l : j < env.length := by
      have := (List.getElem?_eq_some_iff.mp e).1
      rw [List.length_set] at this
      exact this
    rw [List.getElem?_set_self l] at e
    cases e
  · rw [List.getElem?_set_ne (Ne.symm hj)] at e
    obtain ⟨u, a, b⟩ := h.2 j x e
    exact ⟨u, by rw [List.getElem?_set_ne (Ne.symm hj)]; exact a, b⟩
theorem RepE.wipe {s : L2.St} {env : Slots} (h : RepE K r H s env) : ∀ vs : List Nat, RepE K r H (L2.wipe s vs) (wipeW env vs)
  | [] => h
  | v :: vs => RepE.nil (RepE.wipe h vs) v
theorem RepE.start {N : List Str} {vs : List V} {ws : List W} (l : RepL K r H vs ws) : RepE K r H (L2.start N vs) (ws.map some ++ List.replicate (N.length - ws.length) none) := by
  have hl := l.length
  refine ⟨by simp [L2.start, hl], fun i w e => ?_⟩
  by_cases hi : i < ws.length
  · rw [List.getElem?_append_left (by rw [List.length_map]; exact hi), List.getElem?_map, List.getElem?_eq_getElem hi] at e
    have e1 : ws[i] = w := Option.some.inj (Option.some.inj e)
    obtain ⟨v, a, b⟩ := l.get (List.getElem?_eq_getElem hi)
    rw [e1] at b
    refine ⟨v, ?_, b⟩
    show (vs.map some ++ List.replicate (N.length - vs.length) Option.none)[i]? = _
    rw [List.getElem?_append_left (by rw [List.length_map, hl]; exact hi), List.getElem?_map, a]
    rfl
  · rw [List.getElem?_append_right (by rw [List.length_map]; exact Nat.le_of_not_lt hi)] at e
    rw [List.getElem?_replicate] at e
    split at e
    · cases Option.some.inj e
    · cases e
end
end DL

/-! DLb: the judgements over trees and the store; expressions, tests, arguments. -/
namespace DL
open PySem PySem.Spec PyProof.Rows L2

abbrev WK := W → Sto → Prop
abbrev DE := Slots → Sto → WK → Prop
abbrev DT := Slots → Sto → (Bool → Sto → Prop) → Prop
abbrev DA := Slots → Sto → (List W → Sto → Prop) → Prop
abbrev DG := W → Slots → Sto → (Slots → Sto → Prop) → Prop
structure DEnds where
  nx : Slots → Sto → Prop
  rt : WK
  bk : Slots → Sto → Prop
  ct : Slots → Sto → Prop
abbrev DS := DEnds → Slots → Sto → Prop

def Sim (K : Fg) (t : TE) (d : DE) : Prop := ∀ (r : List Addr) (H : Hp) (S : Sto) (s : L2.St) (env : Slots) (Q : WK) (Q0 : VK), RelS K r H S → RepE K r H s env → d env S Q →
  (∀ r' H' S' v w, Ext K r H r' H' → RelS K r' H' S' → Rep K r' H' v w → Q w S' → Q0 v H') → t s H Q0
def SimT (K : Fg) (t : TT) (d : DT) : Prop := ∀ (r : List Addr) (H : Hp) (S : Sto) (s : L2.St) (env : Slots) (Q : Bool → Sto → Prop) (Q0 : Bool → Hp → Prop), RelS K r H S → RepE K r H s env → d env S Q →
  (∀ r' H' S' b, Ext K r H r' H' → RelS K r' H' S' → Q b S' → Q0 b H') → t s H Q0
def SimA (K : Fg) (t : TA) (d : DA) : Prop := ∀ (r : List Addr) (H : Hp) (S : Sto) (s : L2.St) (env : Slots) (Q : List W → Sto → Prop) (Q0 : List V → Hp → Prop), RelS K r H S → RepE K r H s env → d env S Q →
  (∀ r' H' S' vs ws, Ext K r H r' H' → RelS K r' H' S' → RepL K r' H' vs ws → Q ws S' → Q0 vs H') → t s H Q0
def SimG (K : Fg) (t : TG) (d : DG) : Prop := ∀ (r : List Addr) (H : Hp) (S : Sto) (s : L2.St) (env : Slots) (v : V) (w : W) (Q : Slots → Sto → Prop) (Q0 : L2.St → Hp → Prop), RelS K r H S → RepE K r H s env → Rep K r H v w → d w env S Q →
  (∀ r' H' S' s' env', Ext K r H r' H' → RelS K r' H' S' → RepE K r' H' s' env' → Q env' S' → Q0 s' H') → t v s H Q0
structure EndsR (K : Fg) (r : List Addr) (H : Hp) (D' : DEnds) (D : Ends) : Prop where
  nx : ∀ r' H' S' s' env', Ext K r H r' H' → RelS K r' H' S' → RepE K r' H' s' env' → D'.nx env' S' → D.nx s' H'
  rt : ∀ r' H' S' v w, Ext K r H r' H' → RelS K r' H' S' → Rep K r' H' v w → D'.rt w S' → D.rt v H'
  bk : ∀ r' H' S' s' env', Ext K r H r' H' → RelS K r' H' S' → RepE K r' H' s' env' → D'.bk env' S' → D.bk s' H'
  ct : ∀ r' H' S' s' env', Ext K r H r' H' → RelS K r' H' S' → RepE K r' H' s' env' → D'.ct env' S' → D.ct s' H'
theorem EndsR.mono {K : Fg} {r r' : List Addr} {H H' : Hp} {D' : DEnds} {D : Ends} (e : Ext K r H r' H') (h : EndsR K r H D' D) : EndsR K r' H' D' D :=
  ⟨fun _ _ _ _ _ a => h.nx _ _ _ _ _ (e.trans a), fun _ _ _ _ _ a => h.rt _ _ _ _ _ (e.trans a), fun _ _ _ _ _ a => h.bk _ _ _ _ _ (e.trans a), fun _ _ _ _ _ a => h.ct _ _ _ _ _ (e.trans a)⟩
def SimS (K : Fg) (t : TS) (d : DS) : Prop := ∀ (r : List Addr) (H : Hp) (S : Sto) (s : L2.St) (env : Slots) (D' : DEnds) (D : Ends), RelS K r H S → RepE K r H s env → d D' env S → EndsR K r H D' D → t D s H

structure XE (X : Cx) (e : Expr) (d : DE) : Prop where
  ex : ∃ t, PE X e t ∧ Sim X.K t d
structure XT (X : Cx) (e : Expr) (d : DT) : Prop where
  ex : ∃ t, PT X e t ∧ SimT X.K t d
structure XW (X : Cx) (e : Expr) (d : DT) : Prop where
  ex : ∃ t, PW X e t ∧ SimT X.K t d
structure XA (X : Cx) (es : List Expr) (d : DA) : Prop where
  ex : ∃ t, PA X es t ∧ SimA X.K t d
structure XG (X : Cx) (tg : Expr) (d : DG) : Prop where
  ex : ∃ t, PG X tg t ∧ SimG X.K t d
structure XS (X : Cx) (st : Stmt) (d : DS) : Prop where
  ex : ∃ t, PS X st t ∧ SimS X.K t d
structure XSs (X : Cx) (st : List Stmt) (d : DS) : Prop where
  ex : ∃ t, PSs X st t ∧ SimS X.K t d

section
variable {X : Cx} {pos : Pos}
/-! ### names, constants -/
def dVar (i : Nat) : DE := fun env S Q => ∃ w, env[i]? = some (some w) ∧ Q w S
def dC (w : W) : DE := fun _ S Q => Q w S
theorem sim_c {K : Fg} {v : V} {w : W} (h : ∀ r H, Rep K r H v w) : Sim K (tC v) (dC w) := fun r H S s env Q Q0 R E d k => k r H S v w .refl R (h r H) d
theorem xe_int {i j} : XE X (.Constant (.int i) j pos) (dC (.int i)) := ⟨_, pe_int, sim_c fun _ _ => .int i⟩
theorem xe_bl {b j} : XE X (.Constant (.bool b) j pos) (dC (.bl b)) := ⟨_, pe_bl, sim_c fun _ _ => .bl b⟩
theorem xe_non {j} : XE X (.Constant .none j pos) (dC .non) := ⟨_, pe_non, sim_c fun _ _ => .non⟩
theorem xe_str {x j} : XE X (.Constant (.str x) j pos) (dC (.str x)) := ⟨_, pe_str, sim_c fun _ _ => .str x⟩
theorem xv (i : Nat) {x : Str} (hN : X.N[i]? = some x := by rfl) (hv : Vis X.env.scope x := by first | exact Or.inl rfl | exact Or.inr (Or.inl rfl) | exact Or.inr (Or.inr rfl)) (hd : (x == ("__debug__" : Str)) = false := by decide)
    (hcd : (x == ("__classdict__" : Str)) = false := by decide) : XE X (.Name x pos) (dVar i) := by
  refine ⟨_, pe_var hN hv hd hcd, fun r H S s env Q Q0 R E d k => ?_⟩
  obtain ⟨w, e, q⟩ := d
  obtain ⟨v, e', h⟩ := E.2 i w e
  exact ⟨v, e', k r H S v w .refl R h q⟩
/-- a built-in type as a value -/
theorem xe_ty {x : Str} {n : String} (hg : Gl X x) (hm : X.mg x = none) (hv : bootBuiltins x = some (.type n)) (hn : x ≠ "__name__" := by decide) (hd : (x == ("__debug__" : Str)) = false := by decide) :
    XE X (.Name x pos) (dC (.raw (.ty n))) := ⟨_, pe_bltn hg hm hv (show RelV (.ty n) (.type n) from rfl) hn hd, sim_c fun _ _ => .raw _⟩

/-! ### arguments, displays -/
def aNil : DA := fun _ S Q => Q [] S
def aCons (da : DE) (dr : DA) : DA := fun env S Q => da env S fun w S1 => dr env S1 fun ws S2 => Q (w :: ws) S2
theorem xa_nil : XA X [] aNil := ⟨_, pa_nil, fun r H S s env Q Q0 R E d k => k r H S [] [] .refl R .nil d⟩
theorem sim_cons {K : Fg} {ta : TE} {tr : TA} {da : DE} {dr : DA} (sa : Sim K ta da) (sr : SimA K tr dr) : SimA K (tCons ta tr) (aCons da dr) := fun r H S s env Q Q0 R E d k =>
  sa r H S s env _ _ R E d fun r1 H1 S1 v w e1 R1 p1 d1 => sr r1 H1 S1 s env _ _ R1 (E.mono e1) d1 fun r2 H2 S2 vs ws e2 R2 p2 q => k r2 H2 S2 _ _ (e1.trans e2) R2 (.cons (p1.mono e2) p2) q
theorem xa_cons {e : Expr} {es : List Expr} {da : DE} {dr : DA} (ha : XE X e da) (hr : XA X es dr) (hs : starEach (e :: es) X.env = (false, eval e X.env) :: starEach es X.env := by rfl) : XA X (e :: es) (aCons da dr) := by
  obtain ⟨ta, pa, sa⟩ := ha.ex
  obtain ⟨tr, pr, sr⟩ := hr.ex
  exact ⟨_, pa_cons pa pr hs, sim_cons sa sr⟩
def dTup (da : DA) : DE := fun env S Q => da env S fun ws S1 => ws.length ≤ sizeLine ∧ Q (.tup ws) S1
def dLst (da : DA) : DE := fun env S Q => da env S fun ws S1 => ws.length ≤ sizeLine ∧ Q (.ref S1.length) (S1 ++ [.lst ws])
theorem xe_tup {es : List Expr} {da : DA} {k : Nat} (ha : XA X es da) : XE X (.Tuple es k pos) (dTup da) := by
  obtain ⟨ta, pa, sa⟩ := ha.ex
  refine ⟨_, pe_tup pa, fun r H S s env Q Q0 R E d k => ?_⟩
  refine sa r H S s env _ _ R E d fun r1 H1 S1 vs ws e1 R1 p1 d1 => ?_
  refine ⟨by rw [p1.length]; exact d1.1, fun p hp => ?_⟩
  exact k r1 _ S1 _ _ (e1.trans (ext_new hp)) (rel_new R1 hp) (rep_tup hp p1) d1.2
theorem xe_lst {es : List Expr} {da : DA} (ha : XA X es da) : XE X (.List es pos) (dLst da) := by
  obtain ⟨ta, pa, sa⟩ := ha.ex
  refine ⟨_, pe_lst pa, fun r H S s env Q Q0 R E d k => ?_⟩
  refine sa r H S s env _ _ R E d fun r1 H1 S1 vs ws e1 R1 p1 d1 => ?_
  refine ⟨by rw [p1.length]; exact d1.1, fun p hp => ?_⟩
  exact k _ _ _ _ _ (e1.trans (ext_mem hp)) (new_lst R1 hp p1) (rep_mem R1) d1.2

/-! ### operators -/
def SimR (K : Fg) (t : R2) (d : W → W → Sto → WK → Prop) : Prop := ∀ (r : List Addr) (H : Hp) (S : Sto) (x y : V) (wx wy : W) (Q : WK) (Q0 : VK), RelS K r H S → Rep K r H x wx → Rep K r H y wy → d wx wy S Q →
  (∀ r' H' S' v w, Ext K r H r' H' → RelS K r' H' S' → Rep K r' H' v w → Q w S' → Q0 v H') → t x y H Q0
def SimU (K : Fg) (t : V → Hp → VK → Prop) (d : W → Sto → WK → Prop) : Prop := ∀ (r : List Addr) (H : Hp) (S : Sto) (x : V) (wx : W) (Q : WK) (Q0 : VK), RelS K r H S → Rep K r H x wx → d wx S Q →
  (∀ r' H' S' v w, Ext K r H r' H' → RelS K r' H' S' → Rep K r' H' v w → Q w S' → Q0 v H') → t x H Q0
def SimC (K : Fg) (t : List V → Hp → VK → Prop) (d : List W → Sto → WK → Prop) : Prop := ∀ (r : List Addr) (H : Hp) (S : Sto) (xs : List V) (ws : List W) (Q : WK) (Q0 : VK), RelS K r H S → RepL K r H xs ws → d ws S Q →
  (∀ r' H' S' v w, Ext K r H r' H' → RelS K r' H' S' → Rep K r' H' v w → Q w S' → Q0 v H') → t xs H Q0
def SimM (K : Fg) (t : V → List V → Hp → VK → Prop) (d : W → List W → Sto → WK → Prop) : Prop := ∀ (r : List Addr) (H : Hp) (S : Sto) (x : V) (xs : List V) (wx : W) (ws : List W) (Q : WK) (Q0 : VK), RelS K r H S → Rep K r H x wx → RepL K r H xs ws → d wx ws S Q →
  (∀ r' H' S' v w, Ext K r H r' H' → RelS K r' H' S' → Rep K r' H' v w → Q w S' → Q0 v H') → t x xs H Q0
def dOp (d : W → W → Sto → WK → Prop) (da db : DE) : DE := fun env S Q => da env S fun x S1 => db env S1 fun y S2 => d x y S2 Q
def dUn (d : W → Sto → WK → Prop) (da : DE) : DE := fun env S Q => da env S fun x S1 => d x S1 Q
def dCB (d : List W → Sto → WK → Prop) (da : DA) : DE := fun env S Q => da env S fun ws S1 => d ws S1 Q
theorem sim_op {K : Fg} {t : R2} {d : W → W → Sto → WK → Prop} {ta tb : TE} {da db : DE} (h : SimR K t d) (sa : Sim K ta da) (sb : Sim K tb db) : Sim K (tOp t ta tb) (dOp d da db) := fun r H S s env Q Q0 R E g k =>
  sa r H S s env _ _ R E g fun r1 H1 S1 v w e1 R1 p1 d1 => sb r1 H1 S1 s env _ _ R1 (E.mono e1) d1 fun r2 H2 S2 u z e2 R2 p2 d2 =>
    h r2 H2 S2 v u w z Q Q0 R2 (p1.mono e2) p2 d2 fun r3 H3 S3 a b e3 => k r3 H3 S3 a b ((e1.trans e2).trans e3)
theorem sim_un {K : Fg} {t : V → Hp → VK → Prop} {d : W → Sto → WK → Prop} {ta : TE} {da : DE} (h : SimU K t d) (sa : Sim K ta da) : Sim K (tUn t ta) (dUn d da) := fun r H S s env Q Q0 R E g k =>
  sa r H S s env _ _ R E g fun r1 H1 S1 v w e1 R1 p1 d1 => h r1 H1 S1 v w Q Q0 R1 p1 d1 fun r3 H3 S3 a b e3 => k r3 H3 S3 a b (e1.trans e3)
theorem sim_cb {K : Fg} {t : List V → Hp → VK → Prop} {d : List W → Sto → WK → Prop} {ta : TA} {da : DA} (h : SimC K t d) (sa : SimA K ta da) : Sim K (tCB t ta) (dCB d da) := fun r H S s env Q Q0 R E g k =>
  sa r H S s env _ _ R E g fun r1 H1 S1 v w e1 R1 p1 d1 => h r1 H1 S1 v w Q Q0 R1 p1 d1 fun r3 H3 S3 a b e3 => k r3 H3 S3 a b (e1.trans e3)
variable {a b e o : Expr} {es : List Expr} {da db : DE} {dA : DA}
theorem xe_op {op : Operator} {t : R2} {d : W → W → Sto → WK → Prop} (ho : OpR X (binaryOp op) t) (h : SimR X.K t d) (ha : XE X a da) (hb : XE X b db) : XE X (.BinOp a op b pos) (dOp d da db) := by
  obtain ⟨ta, pa, sa⟩ := ha.ex
  obtain ⟨tb, pb, sb⟩ := hb.ex
  exact ⟨_, pe_op ho pa pb, sim_op h sa sb⟩
theorem xe_un {op : UnaryOp} {t : V → Hp → VK → Prop} {d : W → Sto → WK → Prop} (ho : UnR X (unaryOp op) t) (h : SimU X.K t d) (ha : XE X a da) : XE X (.UnaryOp op a pos) (dUn d da) := by
  obtain ⟨ta, pa, sa⟩ := ha.ex
  exact ⟨_, pe_un ho pa, sim_un h sa⟩
theorem xe_cmp {op : CmpOp} {t : R2} {d : W → W → Sto → WK → Prop} (ho : OpR X (compareOp op) t) (h : SimR X.K t d) (ha : XE X a da) (hb : XE X b db) (hm : behindInMarks op b = false := by first | exact nomark _ | rfl) : XE X (.Compare a [op] [b] pos) (dOp d da db) := by
  obtain ⟨ta, pa, sa⟩ := ha.ex
  obtain ⟨tb, pb, sb⟩ := hb.ex
  exact ⟨_, pe_cmpR ho pa pb hm, sim_op h sa sb⟩
/-- a bool as a test -/
def dB (da : DE) : DT := fun env S Q => da env S fun w S1 => ∃ c, w = .bl c ∧ Q c S1
theorem sim_B {K : Fg} {t : TE} {d : DE} (sa : Sim K t d) : SimT K (tTest t) (dB d) := fun r H S s env Q Q0 R E g k =>
  sa r H S s env _ _ R E g fun r1 H1 S1 v w e1 R1 p1 d1 => by
    obtain ⟨c, rfl, q⟩ := d1
    cases p1
    exact ⟨c, rfl, k r1 H1 S1 c e1 R1 q⟩
theorem xt_cmp {op : CmpOp} {t : R2} {d : W → W → Sto → WK → Prop} (ho : OpR X (compareOp op) t) (h : SimR X.K t d) (ha : XE X a da) (hb : XE X b db) (hm : behindInMarks op b = false := by first | exact nomark _ | rfl) : XT X (.Compare a [op] [b] pos) (dB (dOp d da db)) := by
  obtain ⟨ta, pa, sa⟩ := ha.ex
  obtain ⟨tb, pb, sb⟩ := hb.ex
  exact ⟨_, pt_cmpR ho pa pb hm, sim_B (sim_op h sa sb)⟩
/-- truth of any value -/
def vTru (w : W) (S : Sto) (Q : Bool → Prop) : Prop := match w with
  | .non => Q false
  | .bl b => Q b
  | .int i => Q (i != 0)
  | .str y => y.length ≤ sizeLine ∧ Q ((y.length : Int) != 0)
  | .tup ws => Q (!ws.isEmpty)
  | .lit ws => Q (!ws.isEmpty)
  | .ref i => (∃ ws, S[i]? = some (.lst ws) ∧ Q (!ws.isEmpty)) ∨ ∃ kvs, S[i]? = some (.dk kvs) ∧ Q (!kvs.isEmpty)
  | .raw _ => False
theorem repL_empty {K : Fg} {r : List Addr} {H : Hp} {vs : List V} {ws : List W} (h : RepL K r H vs ws) : ws.isEmpty = vs.isEmpty := by cases h <;> rfl
theorem tru_sim {K : Fg} {r : List Addr} {H : Hp} {S : Sto} {v : V} {w : W} {Q : Bool → Prop} (R : RelS K r H S) (p : Rep K r H v w) (h : vTru w S Q) : ∃ k, TruV K v H k ∧ Q k := by
  cases p with
  | non => exact ⟨false, rfl, h⟩
  | bl b => exact ⟨b, rfl, h⟩
  | int i => exact ⟨_, rfl, h⟩
  | str x => exact ⟨_, ⟨h.1, rfl⟩, h.2⟩
  | tup q l => exact ⟨_, .inr (.inl ⟨_, q, rfl⟩), by rw [← repL_empty l]; exact h⟩
  | lit q l => exact ⟨_, .inl ⟨_, q.1, rfl⟩, by rw [← repL_empty l]; exact h⟩
  | @ref x i q =>
    rcases h with ⟨ws, e, h⟩ | ⟨kvs, e, h⟩
    · obtain ⟨xs, h1, h2⟩ := R.obj i _ _ q e
      exact ⟨_, .inl ⟨_, .of h1, rfl⟩, by rw [← repL_empty h2]; exact h⟩
    · obtain ⟨xs, h1, h2, h3⟩ := R.obj i _ _ q e
      refine ⟨_, .inr (.inr ⟨_, h1, rfl⟩), ?_⟩
      have e : kvs.isEmpty = xs.isEmpty := by
        have := congrArg List.isEmpty h2
        simp only [List.isEmpty_map] at this
        exact this.symm
      rw [← e]
      exact h
  | raw v => exact h.elim
def dTru (da : DE) : DT := fun env S Q => da env S fun w S1 => vTru w S1 fun b => Q b S1
theorem xt_val (ha : XE X a da) (he : ∀ whole, isTrue a X.env whole = (do let v ← whole; standAt a.pos; holding [v] (truthy v)) := by intro _; rfl) : XT X a (dTru da) := by
  obtain ⟨ta, pa, sa⟩ := ha.ex
  refine ⟨_, pt_truth pa he, fun r H S s env Q Q0 R E g k => ?_⟩
  refine sa r H S s env _ _ R E g fun r1 H1 S1 v w e1 R1 p1 d1 => ?_
  obtain ⟨c, h1, h2⟩ := tru_sim R1 p1 d1
  exact ⟨c, h1, k r1 H1 S1 c e1 R1 h2⟩
/-! ### and, or, not, if -/
variable {tA tB : DT} {rest : List Expr}
def dAndT (t u : DT) : DT := fun env S Q => t env S fun c S1 => if c = true then u env S1 Q else Q false S1
def dOrT (t u : DT) : DT := fun env S Q => t env S fun c S1 => if c = true then Q true S1 else u env S1 Q
def dNotT (t : DT) : DT := fun env S Q => t env S fun c S1 => Q (!c) S1
theorem xw_and1 (ha : XT X a tA) : XW X (.BoolOp .And [a] pos) tA := by
  obtain ⟨t, p, s⟩ := ha.ex
  exact ⟨_, pw_and1 p, s⟩
theorem xw_or1 (ha : XT X a tA) : XW X (.BoolOp .Or [a] pos) tA := by
  obtain ⟨t, p, s⟩ := ha.ex
  exact ⟨_, pw_or1 p, s⟩
theorem sim_and {K : Fg} {t u : TT} {d f : DT} (s1 : SimT K t d) (s2 : SimT K u f) : SimT K (tAnd t u) (dAndT d f) := fun r H S s env Q Q0 R E g k =>
  s1 r H S s env _ _ R E g fun r1 H1 S1 c e1 R1 q => by
    cases c with
    | true =>
      rw [if_pos rfl] at q ⊢
      exact s2 r1 H1 S1 s env _ _ R1 (E.mono e1) q fun r2 H2 S2 b e2 => k r2 H2 S2 b (e1.trans e2)
    | false =>
      rw [if_neg Bool.false_ne_true] at q ⊢
      exact k r1 H1 S1 false e1 R1 q
theorem sim_or {K : Fg} {t u : TT} {d f : DT} (s1 : SimT K t d) (s2 : SimT K u f) : SimT K (tOr t u) (dOrT d f) := fun r H S s env Q Q0 R E g k =>
  s1 r H S s env _ _ R E g fun r1 H1 S1 c e1 R1 q => by
    cases c with
    | false =>
      rw [if_neg Bool.false_ne_true] at q ⊢
      exact s2 r1 H1 S1 s env _ _ R1 (E.mono e1) q fun r2 H2 S2 b e2 => k r2 H2 S2 b (e1.trans e2)
    | true =>
      rw [if_pos rfl] at q ⊢
      exact k r1 H1 S1 true e1 R1 q
theorem xw_and (ha : XT X a tA) (hb : XW X (.BoolOp .And (b :: rest) pos) tB) : XW X (.BoolOp .And (a :: b :: rest) pos) (dAndT tA tB) := by
  obtain ⟨t, p, s⟩ := ha.ex
  obtain ⟨t2, p2, s2⟩ := hb.ex
  exact ⟨_, pw_and p p2, sim_and s s2⟩
theorem xw_or (ha : XT X a tA) (hb : XW X (.BoolOp .Or (b :: rest) pos) tB) : XW X (.BoolOp .Or (a :: b :: rest) pos) (dOrT tA tB) := by
  obtain ⟨t, p, s⟩ := ha.ex
  obtain ⟨t2, p2, s2⟩ := hb.ex
  exact ⟨_, pw_or p p2, sim_or s s2⟩
theorem XW.xt (h : XW X e tA) : XT X e tA := by
  obtain ⟨t, p, s⟩ := h.ex
  exact ⟨_, p.pt, s⟩
theorem xt_not (ha : XT X a tA) : XT X (.UnaryOp .Not a pos) (dNotT tA) := by
  obtain ⟨t, p, s⟩ := ha.ex
  exact ⟨_, pt_not p, fun r H S s' env Q Q0 R E g k => s r H S s' env _ _ R E g fun r1 H1 S1 c e1 R1 q => k r1 H1 S1 _ e1 R1 q⟩
/-- and, or, not as values: bools -/
def dAndV (da db : DE) : DE := fun env S Q => da env S fun w S1 => ∃ c, w = .bl c ∧ if c = true then db env S1 Q else Q (.bl false) S1
def dOrV (da db : DE) : DE := fun env S Q => da env S fun w S1 => ∃ c, w = .bl c ∧ if c = true then Q (.bl true) S1 else db env S1 Q
def dNotV (da : DE) : DE := fun env S Q => da env S fun w S1 => ∃ c, w = .bl c ∧ Q (.bl (!c)) S1
theorem xe_one {op} (ha : XE X a da) : XE X (.BoolOp op [a] pos) da := by
  obtain ⟨t, p, s⟩ := ha.ex
  exact ⟨_, pe_one p, s⟩
theorem xe_and (ha : XE X a da) (hb : XE X (.BoolOp .And (b :: rest) pos) db) : XE X (.BoolOp .And (a :: b :: rest) pos) (dAndV da db) := by
  obtain ⟨t, p, s⟩ := ha.ex
  obtain ⟨t2, p2, s2⟩ := hb.ex
  refine ⟨_, pe_and p p2, fun r H S s' env Q Q0 R E g k => ?_⟩
  refine s r H S s' env _ _ R E g fun r1 H1 S1 v w e1 R1 q1 d1 => ?_
  obtain ⟨c, rfl, d1⟩ := d1
  cases q1
  refine ⟨c, rfl, ?_⟩
  cases c with
  | true =>
    rw [if_pos rfl] at d1 ⊢
    exact s2 r1 H1 S1 s' env _ _ R1 (E.mono e1) d1 fun r2 H2 S2 b y e2 => k r2 H2 S2 b y (e1.trans e2)
  | false =>
    rw [if_neg Bool.false_ne_true] at d1 ⊢
    exact k r1 H1 S1 _ _ e1 R1 (.bl false) d1
theorem xe_or (ha : XE X a da) (hb : XE X (.BoolOp .Or (b :: rest) pos) db) : XE X (.BoolOp .Or (a :: b :: rest) pos) (dOrV da db) := by
  obtain ⟨t, p, s⟩ := ha.ex
  obtain ⟨t2, p2, s2⟩ := hb.ex
  refine ⟨_, pe_or p p2, fun r H S s' env Q Q0 R E g k => ?_⟩
  refine s r H S s' env _ _ R E g fun r1 H1 S1 v w e1 R1 q1 d1 => ?_
  obtain ⟨c, rfl, d1⟩ := d1
  cases q1
  refine ⟨c, rfl, ?_⟩
  cases c with
  | false =>
    rw [if_neg Bool.false_ne_true] at d1 ⊢
    exact s2 r1 H1 S1 s' env _ _ R1 (E.mono e1) d1 fun r2 H2 S2 b y e2 => k r2 H2 S2 b y (e1.trans e2)
  | true =>
    rw [if_pos rfl] at d1 ⊢
    exact k r1 H1 S1 _ _ e1 R1 (.bl true) d1
theorem xe_not (ha : XE X a da) : XE X (.UnaryOp .Not a pos) (dNotV da) := by
  obtain ⟨t, p, s⟩ := ha.ex
  refine ⟨_, pe_not p, fun r H S s' env Q Q0 R E g k => ?_⟩
  refine s r H S s' env _ _ R E g fun r1 H1 S1 v w e1 R1 q1 d1 => ?_
  obtain ⟨c, rfl, d1⟩ := d1
  cases q1
  exact ⟨c, rfl, k r1 H1 S1 _ _ e1 R1 (.bl _) d1⟩
def dIf (t : DT) (da db : DE) : DE := fun env S Q => t env S fun c S1 => if c = true then da env S1 Q else db env S1 Q
theorem xe_if {c : Expr} (hc : XT X c tA) (ha : XE X a da) (hb : XE X b db) : XE X (.IfExp c a b pos) (dIf tA da db) := by
  obtain ⟨t, p, s⟩ := hc.ex
  obtain ⟨t1, p1, s1⟩ := ha.ex
  obtain ⟨t2, p2, s2⟩ := hb.ex
  refine ⟨_, pe_ifExp p p1 p2, fun r H S s' env Q Q0 R E g k => ?_⟩
  refine s r H S s' env _ _ R E g fun r1 H1 S1 c e1 R1 d1 => ?_
  cases c with
  | true =>
    rw [if_pos rfl] at d1 ⊢
    exact s1 r1 H1 S1 s' env _ _ R1 (E.mono e1) d1 fun r2 H2 S2 b y e2 => k r2 H2 S2 b y (e1.trans e2)
  | false =>
    rw [if_neg Bool.false_ne_true] at d1 ⊢
    exact s2 r1 H1 S1 s' env _ _ R1 (E.mono e1) d1 fun r2 H2 S2 b y e2 => k r2 H2 S2 b y (e1.trans e2)
/-! ### calls -/
variable {x : Str} {p : Pos} {id T : String}
theorem xe_callB {t : List V → Hp → VK → Prop} {d : List W → Sto → WK → Prop} (hc : CallR X (.builtin id) t) (h : SimC X.K t d) (hg : Gl X x) (hm : X.mg x = none) (hv : bootBuiltins x = some (.builtin id)) (ha : XA X (e :: es) dA) (hn : x ≠ "__name__" := by decide) (hdb : (x == ("__debug__" : Str)) = false := by decide)
    (he : starEach (e :: es) X.env = (false, eval e X.env) :: starEach es X.env := by rfl) (hpl : (backTo pos (starEach es X.env)).any (·.1) = false := by rfl) : XE X (.Call (.Name x p) (e :: es) [] pos) (dCB d dA) := by
  obtain ⟨ta, pa, sa⟩ := ha.ex
  exact ⟨_, pe_callB hc hg hm hv pa hn hdb he hpl, sim_cb h sa⟩
theorem xe_callTy {t : List V → Hp → VK → Prop} {d : List W → Sto → WK → Prop} (hc : CallR X (.type T) t) (h : SimC X.K t d) (hg : Gl X x) (hm : X.mg x = none) (hv : bootBuiltins x = some (.type T)) (ha : XA X (e :: es) dA) (hn : x ≠ "__name__" := by decide) (hdb : (x == ("__debug__" : Str)) = false := by decide)
    (he : starEach (e :: es) X.env = (false, eval e X.env) :: starEach es X.env := by rfl) (hpl : (backTo pos (starEach es X.env)).any (·.1) = false := by rfl) : XE X (.Call (.Name x p) (e :: es) [] pos) (dCB d dA) := by
  obtain ⟨ta, pa, sa⟩ := ha.ex
  exact ⟨_, pe_callTy hc hg hm hv pa hn hdb he hpl, sim_cb h sa⟩
/-- methods of built-in types -/
def vTy (T : String) (w : W) (S : Sto) : Prop := match w with
  | .str _ => T = "str"
  | .ref i => (T = "list" ∧ ∃ ws, S[i]? = some (.lst ws)) ∨ (T = "dict" ∧ ∃ ws, S[i]? = some (.dk ws))
  | .lit _ => T = "list"
  | _ => False
theorem ty_sim {K : Fg} {r : List Addr} {H : Hp} {S : Sto} {v : V} {w : W} (R : RelS K r H S) (p : Rep K r H v w) (h : vTy T w S) : tyV K T v H := by
  cases p with
  | str x => exact h
  | lit q l => exact .inl ⟨h, _, q.1⟩
  | @ref a i q =>
    rcases h with ⟨h, ws, e⟩ | ⟨h, ws, e⟩
    · obtain ⟨xs, h1, _⟩ := R.obj i _ _ q e
      exact .inl ⟨h, _, .of h1⟩
    · obtain ⟨xs, h1, _⟩ := R.obj i _ _ q e
      exact .inr (.inr (.inl ⟨h, .inl ⟨_, h1⟩⟩))
  | _ => exact h.elim
def dBM (T : String) (d : W → List W → Sto → WK → Prop) (da : DE) (dr : DA) : DE := fun env S Q => da env S fun x S1 => vTy T x S1 ∧ dr env S1 fun ws S2 => d x ws S2 Q
def dBM0 (T : String) (d : W → List W → Sto → WK → Prop) (da : DE) : DE := fun env S Q => da env S fun x S1 => vTy T x S1 ∧ d x [] S1 Q
variable {name : Str} {apos cpos : Pos}
theorem xe_bm {t : V → List V → Hp → VK → Prop} {d : W → List W → Sto → WK → Prop} (pa : PlainAttrs T) (slot : Slot T name id) (hty : typeOf (.builtin id) = pure (.type "method_descriptor")) (hm : MtR X id t) (h : SimM X.K t d) (ho : XE X o da) (ha : XA X (e :: es) dA)
    (hbase : attributeBase o name X.env (eval o X.env) = eval o X.env := by rfl)
    (hfew : ((backTo cpos (starEach (e :: es) X.env)).all (fun x => !x.1) && (backToKw cpos (keywordEach [] X.env)).all (fun x => x.1.isSome)
      && decide ((e :: es).length + ([] : List Keyword).length + (if ([] : List Keyword).isEmpty then 0 else 1) < 30)) = true := by rfl)
    (hline : (apos.endLine == cpos.line) = true := by rfl) (hs : starEach (e :: es) X.env = (false, eval e X.env) :: starEach es X.env := by rfl) (hplain : (backTo cpos (starEach es X.env)).any (·.1) = false := by rfl) :
    XE X (.Call (.Attribute o name apos) (e :: es) [] cpos) (dBM T d da dA) := by
  obtain ⟨ta, p1, sa⟩ := ho.ex
  obtain ⟨tr, p2, sr⟩ := ha.ex
  refine ⟨_, pe_bm pa slot hty hm p1 p2 hbase hfew hline hs hplain, fun r H S s env Q Q0 R E g k => ?_⟩
  refine sa r H S s env _ _ R E g fun r1 H1 S1 v w e1 R1 q1 d1 => ⟨ty_sim R1 q1 d1.1, ?_⟩
  refine sr r1 H1 S1 s env _ _ R1 (E.mono e1) d1.2 fun r2 H2 S2 vs ws e2 R2 q2 d2 => ?_
  exact h r2 H2 S2 v vs w ws Q Q0 R2 (q1.mono e2) q2 d2 fun r3 H3 S3 x y e3 => k r3 H3 S3 x y ((e1.trans e2).trans e3)
theorem xe_bm0 {t : V → List V → Hp → VK → Prop} {d : W → List W → Sto → WK → Prop} (pa : PlainAttrs T) (slot : Slot T name id) (hty : typeOf (.builtin id) = pure (.type "method_descriptor")) (hm : MtR X id t) (h : SimM X.K t d) (ho : XE X o da)
    (hbase : attributeBase o name X.env (eval o X.env) = eval o X.env := by rfl) (hline : (apos.endLine == cpos.line) = true := by rfl) : XE X (.Call (.Attribute o name apos) [] [] cpos) (dBM0 T d da) := by
  obtain ⟨ta, p1, sa⟩ := ho.ex
  refine ⟨_, pe_bm0 pa slot hty hm p1 hbase hline, fun r H S s env Q Q0 R E g k => ?_⟩
  refine sa r H S s env _ _ R E g fun r1 H1 S1 v w e1 R1 q1 d1 => ⟨ty_sim R1 q1 d1.1, ?_⟩
  exact h r1 H1 S1 v [] w [] Q Q0 R1 q1 .nil d1.2 fun r3 H3 S3 x y e3 => k r3 H3 S3 x y (e1.trans e3)
/-! ### subscripts, slices -/
theorem xe_ix {t : R2} {d : W → W → Sto → WK → Prop} (hr : IxR X t) (h : SimR X.K t d) (ha : XE X a da) (hb : XE X b db) (hs : PlainIx b := by exact fun _ _ => rfl) : XE X (.Subscript a b pos) (dOp d da db) := by
  obtain ⟨ta, p1, s1⟩ := ha.ex
  obtain ⟨tb, p2, s2⟩ := hb.ex
  exact ⟨_, pe_ix hr p1 p2 hs, sim_op h s1 s2⟩
abbrev DO := Slots → Sto → (Option Int → Sto → Prop) → Prop
def SimO (K : Fg) (t : TO) (d : DO) : Prop := ∀ (r : List Addr) (H : Hp) (S : Sto) (s : L2.St) (env : Slots) (Q : Option Int → Sto → Prop) (Q0 : Option Int → Hp → Prop), RelS K r H S → RepE K r H s env → d env S Q →
  (∀ r' H' S' i, Ext K r H r' H' → RelS K r' H' S' → Q i S' → Q0 i H') → t s H Q0
structure XO (X : Cx) (e : Option Expr) (d : DO) : Prop where
  ex : ∃ t, PO X e t ∧ SimO X.K t d
def oNone : DO := fun _ S Q => Q none S
def oSome (d : DE) : DO := fun env S Q => d env S fun w S1 => ∃ i, w = .int i ∧ Q (some i) S1
theorem xo_none : XO X none oNone := ⟨_, po_none, fun r H S s env Q Q0 R E g k => k r H S none .refl R g⟩
theorem xo_some (ha : XE X a da) : XO X (some a) (oSome da) := by
  obtain ⟨ta, p1, s1⟩ := ha.ex
  refine ⟨_, po_some p1, fun r H S s env Q Q0 R E g k => ?_⟩
  refine s1 r H S s env _ _ R E g fun r1 H1 S1 v w e1 R1 q1 d1 => ?_
  obtain ⟨i, rfl, d1⟩ := d1
  cases q1
  exact ⟨i, rfl, k r1 H1 S1 _ e1 R1 d1⟩
def SimSl (K : Fg) (t : V → Option Int → Option Int → Hp → VK → Prop) (d : W → Option Int → Option Int → Sto → WK → Prop) : Prop := ∀ (r : List Addr) (H : Hp) (S : Sto) (x : V) (wx : W) (lo hi : Option Int) (Q : WK) (Q0 : VK), RelS K r H S → Rep K r H x wx → d wx lo hi S Q →
  (∀ r' H' S' v w, Ext K r H r' H' → RelS K r' H' S' → Rep K r' H' v w → Q w S' → Q0 v H') → t x lo hi H Q0
def dSl (d : W → Option Int → Option Int → Sto → WK → Prop) (da : DE) (dl dh : DO) : DE := fun env S Q => da env S fun x S1 => dl env S1 fun l S2 => dh env S2 fun u S3 => d x l u S3 Q
theorem xe_slice {lo hi : Option Expr} {p2 : Pos} {dl dh : DO} {t : V → Option Int → Option Int → Hp → VK → Prop} {d : W → Option Int → Option Int → Sto → WK → Prop} (hr : SlR X t) (h : SimSl X.K t d) (ha : XE X a da) (hl : XO X lo dl) (hu : XO X hi dh) : XE X (.Subscript a (.Slice lo hi none p2) pos) (dSl d da dl dh) := by
  obtain ⟨ta, p1, s1⟩ := ha.ex
  obtain ⟨tl, q1, u1⟩ := hl.ex
  obtain ⟨th, q2, u2⟩ := hu.ex
  refine ⟨_, pe_slice hr p1 q1 q2, fun r H S s env Q Q0 R E g k => ?_⟩
  refine s1 r H S s env _ _ R E g fun r1 H1 S1 v w e1 R1 z1 d1 => ?_
  refine u1 r1 H1 S1 s env _ _ R1 (E.mono e1) d1 fun r2 H2 S2 i e2 R2 d2 => ?_
  refine u2 r2 H2 S2 s env _ _ R2 (E.mono (e1.trans e2)) d2 fun r3 H3 S3 j e3 R3 d3 => ?_
  exact h r3 H3 S3 v w i j Q Q0 R3 (z1.mono (e2.trans e3)) d3 fun r4 H4 S4 x y e4 => k r4 H4 S4 x y (((e1.trans e2).trans e3).trans e4)
end
end DL

/-! DLc: statements, targets, loops, comprehensions, defs. -/
namespace DL
open PySem PySem.Spec PyProof.Rows L2

section
variable {X : Cx} {pos : Pos} {e : Expr} {es : List Expr} {st : Stmt} {rest body : List Stmt} {t u : DS} {de : DE}
def dNext : DS := fun D env S => D.nx env S
def dSeq (t u : DS) : DS := fun D env S => t { D with nx := u D } env S
def dBreak : DS := fun D env S => D.bk env S
def dCont : DS := fun D env S => D.ct env S
theorem xss_nil : XSs X [] dNext := ⟨_, pss_nil, fun r H S s env D' D R E d k => k.nx r H S s env .refl R E d⟩
theorem xss_cons (h1 : XS X st t) (h2 : XSs X rest u) : XSs X (st :: rest) (dSeq t u) := by
  obtain ⟨t1, p1, s1⟩ := h1.ex
  obtain ⟨t2, p2, s2⟩ := h2.ex
  refine ⟨_, pss_cons p1 p2, fun r H S s env D' D R E d k => ?_⟩
  exact s1 r H S s env _ _ R E d ⟨fun r1 H1 S1 s1' env1 e1 R1 E1 q => s2 r1 H1 S1 s1' env1 D' D R1 E1 q (k.mono e1), k.rt, k.bk, k.ct⟩
theorem xss_one (h1 : XS X st t) : XSs X [st] t := by
  obtain ⟨t1, p1, s1⟩ := h1.ex
  exact ⟨_, pss_one p1, s1⟩
theorem xs_pass : XS X (.Pass pos) dNext := ⟨_, ps_pass, fun r H S s env D' D R E d k => k.nx r H S s env .refl R E d⟩
theorem xs_break : XS X (.Break pos) dBreak := ⟨_, ps_break, fun r H S s env D' D R E d k => k.bk r H S s env .refl R E d⟩
theorem xs_continue : XS X (.Continue pos) dCont := ⟨_, ps_continue, fun r H S s env D' D R E d k => k.ct r H S s env .refl R E d⟩
theorem xs_doc {x j pos'} : XS X (.Expr (.Constant (.str x) j pos) pos') dNext := ⟨_, ps_doc, fun r H S s env D' D R E d k => k.nx r H S s env .refl R E d⟩
def dNever : DS := fun _ _ _ => False
theorem xs_never : XS X st dNever := ⟨_, ps_never, fun _ _ _ _ _ _ _ _ _ d _ => d.elim⟩
theorem xss_never : XSs X body dNever := ⟨_, pss_never, fun _ _ _ _ _ _ _ _ _ d _ => d.elim⟩
def dDrop (d : DE) : DS := fun D env S => d env S fun _ S1 => D.nx env S1
theorem xs_expr (h : XE X e de) (hs : swapsWith e none pos.line X.env = pure false := by rfl) : XS X (.Expr e pos) (dDrop de) := by
  obtain ⟨t1, p1, s1⟩ := h.ex
  refine ⟨_, ps_expr p1 hs, fun r H S s env D' D R E d k => ?_⟩
  exact s1 r H S s env _ _ R E d fun r1 H1 S1 v w e1 R1 q1 d1 => k.nx r1 H1 S1 s env e1 R1 (E.mono e1) d1
def dRet (d : DE) : DS := fun D env S => d env S D.rt
theorem xs_ret (h : XE X e de) : XS X (.Return (some e) pos) (dRet de) := by
  obtain ⟨t1, p1, s1⟩ := h.ex
  refine ⟨_, ps_ret p1, fun r H S s env D' D R E d k => ?_⟩
  exact s1 r H S s env _ _ R E d fun r1 H1 S1 v w e1 R1 q1 d1 => k.rt r1 H1 S1 v w e1 R1 q1 d1
def dRetN : DS := fun D _ S => D.rt .non S
theorem xs_retN : XS X (.Return none pos) dRetN := ⟨_, ps_retN, fun r H S s env D' D R E d k => k.rt r H S _ _ .refl R .non d⟩
def dIfS (c : DT) (t u : DS) : DS := fun D env S => c env S fun b S1 => if b = true then t D env S1 else u D env S1
theorem xs_if {c : Expr} {a b : List Stmt} {dc : DT} (hc : XT X c dc) (ha : XSs X a t) (hb : XSs X b u) : XS X (.If c a b pos) (dIfS dc t u) := by
  obtain ⟨t0, p0, s0⟩ := hc.ex
  obtain ⟨t1, p1, s1⟩ := ha.ex
  obtain ⟨t2, p2, s2⟩ := hb.ex
  refine ⟨_, ps_if p0 p1 p2, fun r H S s env D' D R E d k => ?_⟩
  refine s0 r H S s env _ _ R E d fun r1 H1 S1 c e1 R1 d1 => ?_
  cases c with
  | true =>
    rw [if_pos rfl] at d1 ⊢
    exact s1 r1 H1 S1 s env D' D R1 (E.mono e1) d1 (k.mono e1)
  | false =>
    rw [if_neg Bool.false_ne_true] at d1 ⊢
    exact s2 r1 H1 S1 s env D' D R1 (E.mono e1) d1 (k.mono e1)
/-! ### targets -/
abbrev DGs := List W → Slots → Sto → (Slots → Sto → Prop) → Prop
def SimGs (K : Fg) (t : TGs) (d : DGs) : Prop := ∀ (r : List Addr) (H : Hp) (S : Sto) (s : L2.St) (env : Slots) (vs : List V) (ws : List W) (Q : Slots → Sto → Prop) (Q0 : L2.St → Hp → Prop), RelS K r H S → RepE K r H s env → RepL K r H vs ws → d ws env S Q →
  (∀ r' H' S' s' env', Ext K r H r' H' → RelS K r' H' S' → RepE K r' H' s' env' → Q env' S' → Q0 s' H') → t vs s H Q0
structure XGs (X : Cx) (tg : List Expr) (d : DGs) : Prop where
  ex : ∃ t, PGs X tg t ∧ SimGs X.K t d
def gNm (i : Nat) : DG := fun w env S Q => Q (env.set i (some w)) S
theorem xg_name {x : Str} (i : Nat) (hN : X.N.Nodup) (hi : X.N[i]? = some x := by rfl) (hx : Loc X.env.scope x := by first | exact Or.inl rfl | exact Or.inr rfl) (hf : X.fn x = true ∨ X.env.scope.names.lookup x = some .local := by first | exact .inl rfl | exact .inr rfl) : XG X (.Name x pos) (gNm i) :=
  ⟨_, pg_name hN hi hx hf, fun r H S s env v w Q Q0 R E p d k => k r H S _ _ .refl R (E.set p i) d⟩
def gN0 : DGs := fun ws env S Q => ws = [] ∧ Q env S
def gC (g : DG) (gs : DGs) : DGs := fun ws env S Q => ∃ w ws', ws = w :: ws' ∧ g w env S fun env1 S1 => gs ws' env1 S1 Q
theorem xgs_nil : XGs X [] gN0 := ⟨_, pgs_nil, fun r H S s env vs ws Q Q0 R E p d k => by
  obtain ⟨rfl, d⟩ := d
  cases p
  exact ⟨rfl, k r H S _ _ .refl R E d⟩⟩
theorem xgs_cons {g : DG} {gs : DGs} (h1 : XG X e g) (h2 : XGs X es gs) (hs : (assignEach (e :: es) X.env).map (·.2) = assign e X.env :: (assignEach es X.env).map (·.2) := by rfl) : XGs X (e :: es) (gC g gs) := by
  obtain ⟨t1, p1, s1⟩ := h1.ex
  obtain ⟨t2, p2, s2⟩ := h2.ex
  refine ⟨_, pgs_cons p1 p2 hs, fun r H S s env vs ws Q Q0 R E p d k => ?_⟩
  obtain ⟨w, ws', rfl, d⟩ := d
  cases p with
  | cons q l =>
    refine ⟨_, _, rfl, ?_⟩
    refine s1 r H S s env _ _ _ _ R E q d fun r1 H1 S1 s1' env1 e1 R1 E1 d1 => ?_
    exact s2 r1 H1 S1 s1' env1 _ _ _ _ R1 E1 (l.mono e1) d1 fun r2 H2 S2 x y e2 => k r2 H2 S2 x y (e1.trans e2)
def gTp (n : Nat) (gs : DGs) : DG := fun w env S Q => ∃ ws, w = .tup ws ∧ ws.length = n ∧ gs ws env S Q
theorem xg_tup {k n : Nat} {gs : DGs} (hc : X.calm = true) (h : XGs X es gs) (hn : (assignEach es X.env).length = n := by rfl) (hst : (assignEach es X.env).findIdx? (·.1) = none := by rfl) : XG X (.Tuple es k pos) (gTp n gs) := by
  obtain ⟨t1, p1, s1⟩ := h.ex
  refine ⟨_, pg_tup hc p1 hn hst, fun r H S s env v w Q Q0 R E p d k => ?_⟩
  obtain ⟨ws, rfl, hl, d⟩ := d
  cases p with
  | tup q l =>
    exact ⟨_, _, rfl, q, by rw [l.length]; exact hl, s1 r H S s env _ _ _ _ R E l d k⟩
/-- o[i] = v -/
def SimSet (K : Fg) (t : TSet) (d : W → W → W → Sto → (Sto → Prop) → Prop) : Prop := ∀ (r : List Addr) (H : Hp) (S : Sto) (o i v : V) (wo wi w : W) (Q : Sto → Prop) (Q0 : Hp → Prop), RelS K r H S → Rep K r H o wo → Rep K r H i wi → Rep K r H v w → d wo wi w S Q →
  (∀ r' H' S', Ext K r H r' H' → RelS K r' H' S' → Q S' → Q0 H') → t o i v H Q0
def gSb (do' di : DE) (d : W → W → W → Sto → (Sto → Prop) → Prop) : DG := fun w env S Q => do' env S fun o S1 => di env S1 fun i S2 => d o i w S2 fun S3 => Q env S3
theorem xg_sub {o i : Expr} {d0 d1 : DE} {t : TSet} {d : W → W → W → Sto → (Sto → Prop) → Prop} (hs : PSet X t) (h : SimSet X.K t d) (ho : XE X o d0) (hi : XE X i d1)
    (ha : ∀ v, assign (.Subscript o i pos) X.env v = (do
      let ov ← holding [v] (eval o X.env)
      let iv ← holding [v, ov] (eval i X.env)
      standAt pos
      holding [v, ov, iv] (setItem ov iv v)
      release [v, ov, iv] []) := by intro _; rfl) : XG X (.Subscript o i pos) (gSb d0 d1 d) := by
  obtain ⟨t1, p1, s1⟩ := ho.ex
  obtain ⟨t2, p2, s2⟩ := hi.ex
  refine ⟨_, pg_sub p1 p2 hs ha, fun r H S s env v w Q Q0 R E p g k => ?_⟩
  refine s1 r H S s env _ _ R E g fun r1 H1 S1 x wx e1 R1 q1 g1 => ?_
  refine s2 r1 H1 S1 s env _ _ R1 (E.mono e1) g1 fun r2 H2 S2 y wy e2 R2 q2 g2 => ?_
  exact h r2 H2 S2 x y v wx wy w _ _ R2 (q1.mono e2) q2 (p.mono (e1.trans e2)) g2 fun r3 H3 S3 e3 R3 q3 => k r3 H3 S3 s env ((e1.trans e2).trans e3) R3 (E.mono ((e1.trans e2).trans e3)) q3
def dAsg (d : DE) (g : DG) : DS := fun D env S => d env S fun w S1 => g w env S1 D.nx
theorem sim_asg {K : Fg} {te : TE} {tg : TG} {d : DE} {g : DG} (s1 : Sim K te d) (s2 : SimG K tg g) : SimS K (tAsg te tg) (dAsg d g) := fun r H S s env D' D R E d k =>
  s1 r H S s env _ _ R E d fun r1 H1 S1 v w e1 R1 q1 d1 => s2 r1 H1 S1 s env v w _ _ R1 (E.mono e1) q1 d1 fun r2 H2 S2 s' env' e2 R2 E2 q => k.nx r2 H2 S2 s' env' (e1.trans e2) R2 E2 q
theorem xs_asg {tg : Expr} {g : DG} (he : XE X e de) (hg : XG X tg g) (hs : swapsWithSole [tg] e pos.line X.env = pure false := by rfl) (hw : swappedStores [tg] e X.env = pure none := by rfl)
    (h1 : (assignEach [tg] X.env).map (·.2) = [assign tg X.env] := by rfl) : XS X (.Assign [tg] e pos) (dAsg de g) := by
  obtain ⟨t1, p1, s1⟩ := he.ex
  obtain ⟨t2, p2, s2⟩ := hg.ex
  exact ⟨_, ps_asg p1 p2 hs hw h1, sim_asg s1 s2⟩
theorem xs_set {x : Str} {pos' : Pos} (i : Nat) (hN : X.N.Nodup) (he : XE X e de) (hi : X.N[i]? = some x := by rfl) (hx : Loc X.env.scope x := by first | exact Or.inl rfl | exact Or.inr rfl) (hs : swapsWith e (some (.Name x pos')) pos.line X.env = pure false := by rfl) (hf : X.fn x = true ∨ X.env.scope.names.lookup x = some .local := by first | exact .inl rfl | exact .inr rfl) :
    XS X (.Assign [.Name x pos'] e pos) (dAsg de (gNm i)) := by
  obtain ⟨t1, p1, s1⟩ := he.ex
  exact ⟨_, ps_set hN hi hx p1 hs hf, sim_asg s1 fun r H S s env v w Q Q0 R E p d k => k r H S _ _ .refl R (E.set p i) d⟩
/-- a, b = x, y -/
def dPar (i j : Nat) (da : DA) : DS := fun D env S => da env S fun ws S1 => ∃ v w, ws = [v, w] ∧ D.nx ((env.set i (some v)).set j (some w)) S1
theorem xs_par {x y : Str} {a b : Expr} {da : DA} {px py pt : Pos} {kt k2 pt2} (i j : Nat) (hc : X.calm = true) (hN : X.N.Nodup) (ha : XA X [a, b] da) (hi : X.N[i]? = some x := by rfl) (hj : X.N[j]? = some y := by rfl) (hij : i ≠ j := by decide)
    (hx : X.env.scope.names.lookup x = some .local := by rfl) (hy : X.env.scope.names.lookup y = some .local := by rfl)
    (hw : swappedStores [.Tuple [.Name x px, .Name y py] kt pt] (.Tuple [a, b] k2 pt2) X.env = pure (some [x, y]) := by rfl)
    (hs : swapsWithSole [.Tuple [.Name x px, .Name y py] kt pt] (.Tuple [a, b] k2 pt2) pos.line X.env = pure false := by rfl) :
    XS X (.Assign [.Tuple [.Name x px, .Name y py] kt pt] (.Tuple [a, b] k2 pt2) pos) (dPar i j da) := by
  obtain ⟨t1, p1, s1⟩ := ha.ex
  refine ⟨_, ps_par hc hN hi hj hij hx hy p1 hw hs, fun r H S s env D' D R E d k => ?_⟩
  refine s1 r H S s env _ _ R E d fun r1 H1 S1 vs ws e1 R1 q1 d1 => ?_
  obtain ⟨v, w, rfl, d1⟩ := d1
  cases q1 with
  | cons q l =>
    cases l with
    | cons q' l' =>
      cases l'
      exact ⟨_, _, rfl, k.nx r1 H1 S1 _ _ e1 R1 (((E.mono e1).set q i).set q' j) d1⟩
/-- name op= e -/
def SimIp (K : Fg) (t : TIp) (d : W → W → Sto → WK → Prop) : Prop := SimR K t d
def dAug (i : Nat) (de : DE) (d : W → W → Sto → WK → Prop) : DS := fun D env S => ∃ x, env[i]? = some (some x) ∧ de env S fun y S1 => d x y S1 fun z S2 => D.nx (env.set i (some z)) S2
theorem xs_aug {x : Str} {op : Operator} {t : TIp} {d : W → W → Sto → WK → Prop} {pos' : Pos} (i : Nat) (hN : X.N.Nodup) (ho : PIp X op t) (h : SimR X.K t d) (he : XE X e de) (hi : X.N[i]? = some x := by rfl) (hx : Loc X.env.scope x := by first | exact Or.inl rfl | exact Or.inr rfl)
    (hf : X.fn x = true ∨ X.env.scope.names.lookup x = some .local := by first | exact .inl rfl | exact .inr rfl) : XS X (.AugAssign (.Name x pos') op e pos) (dAug i de d) := by
  obtain ⟨t1, p1, s1⟩ := he.ex
  refine ⟨_, ps_aug hN hi hx p1 ho hf, fun r H S s env D' D R E g k => ?_⟩
  obtain ⟨wx, ex, g⟩ := g
  obtain ⟨v, ev, pv⟩ := E.2 i wx ex
  refine ⟨v, ev, ?_⟩
  refine s1 r H S s env _ _ R E g fun r1 H1 S1 y wy e1 R1 q1 d1 => ?_
  exact h r1 H1 S1 v y wx wy _ _ R1 (pv.mono e1) q1 d1 fun r2 H2 S2 z wz e2 R2 q2 d2 => k.nx r2 H2 S2 _ _ (e1.trans e2) R2 ((E.mono (e1.trans e2)).set q2 i) d2
/-! ### while -/
def dWhile (c : DT) (b : DS) : DS := fun D env S => ∃ W : Nat → Slots → Sto → Prop, (∃ m, W m env S) ∧ ∀ m env S, W m env S →
  c env S fun k S1 => if k = true then b { D with nx := fun e s => ∃ m', m' < m ∧ W m' e s, ct := fun e s => ∃ m', m' < m ∧ W m' e s, bk := D.nx } env S1 else D.nx env S1
theorem xs_while {c : Expr} {dc : DT} (hp : PassesOwn (model X.prog X.w) X.A X.env X.xe) (hc : XT X c dc) (hb : XSs X body t) : XS X (.While c body [] pos) (dWhile dc t) := by
  obtain ⟨t0, p0, s0⟩ := hc.ex
  obtain ⟨t1, p1, s1⟩ := hb.ex
  refine ⟨_, ps_while hp p0 p1, fun r H S s env D' D R E d k => ?_⟩
  obtain ⟨W, ⟨m0, w0⟩, turn⟩ := d
  refine ⟨fun m s H' => ∃ r' S' env', Ext X.K r H r' H' ∧ RelS X.K r' H' S' ∧ RepE X.K r' H' s env' ∧ W m env' S', ⟨m0, r, S, env, .refl, R, E, w0⟩, fun m s1' H1 ⟨r1, S1, env1, e1, R1, E1, w1⟩ => ?_⟩
  refine s0 r1 H1 S1 s1' env1 _ _ R1 E1 (turn m env1 S1 w1) fun r2 H2 S2 b e2 R2 d2 => ?_
  cases b with
  | true =>
    rw [if_pos rfl] at d2 ⊢
    refine ⟨fun s H' => ∃ m', m' < m ∧ ∃ r' S' env', Ext X.K r H r' H' ∧ RelS X.K r' H' S' ∧ RepE X.K r' H' s env' ∧ W m' env' S', fun s' H' h => h, ?_⟩
    refine s1 r2 H2 S2 s1' env1 _ _ R2 (E1.mono e2) d2 ⟨?_, fun r3 H3 S3 v w e3 => k.rt r3 H3 S3 v w ((e1.trans e2).trans e3), fun r3 H3 S3 v w e3 => k.nx r3 H3 S3 v w ((e1.trans e2).trans e3), ?_⟩
    · intro r3 H3 S3 s3 env3 e3 R3 E3 ⟨m', l, w3⟩
      exact ⟨m', l, r3, S3, env3, (e1.trans e2).trans e3, R3, E3, w3⟩
    · intro r3 H3 S3 s3 env3 e3 R3 E3 ⟨m', l, w3⟩
      exact ⟨m', l, r3, S3, env3, (e1.trans e2).trans e3, R3, E3, w3⟩
  | false =>
    rw [if_neg Bool.false_ne_true] at d2 ⊢
    exact k.nx r2 H2 S2 s1' env1 (e1.trans e2) R2 (E1.mono e2) d2
/-! ### what a loop walks -/
structure ItOk (K : Fg) (J : It) (its : List W) (still : Sto → Prop) (r0 : List Addr) (H0 : Hp) : Prop where
  go : ∀ r H S i x, Ext K r0 H0 r H → RelS K r H S → still S → its[i]? = some x → J.go i H ∧ ∀ v H', J.yld i H v H' → Ext K r H r H' ∧ RelS K r H' S ∧ Rep K r H' v x
  stop : ∀ r H S i, Ext K r0 H0 r H → RelS K r H S → still S → its.length ≤ i → J.stop i H
abbrev DI := Slots → Sto → (List W → (Sto → Prop) → Sto → Prop) → Prop
def SimI (K : Fg) (t : TI) (d : DI) : Prop := ∀ (r : List Addr) (H : Hp) (S : Sto) (s : L2.St) (env : Slots) (Q : List W → (Sto → Prop) → Sto → Prop) (Q0 : It → Hp → Prop), RelS K r H S → RepE K r H s env → d env S Q →
  (∀ r' H' S' J its still, Ext K r H r' H' → RelS K r' H' S' → ItOk K J its still r' H' → Q its still S' → Q0 J H') → t s H Q0
structure XI (X : Cx) (tg it : Expr) (d : DI) : Prop where
  ex : ∃ t, PI X tg it t ∧ SimI X.K t d
def forW (g : DG) (b : DS) (still : Sto → Prop) : List W → DS
  | [] => fun D env S => still S ∧ D.nx env S
  | x :: r => fun D env S => still S ∧ g x env S fun env2 S2 => b { D with nx := forW g b still r D, ct := forW g b still r D, bk := D.nx } env2 S2
def dFor (di : DI) (g : DG) (b : DS) : DS := fun D env S => di env S fun its still S1 => forW g b still its D env S1
theorem xs_for {iter tg : Expr} {di : DI} {g : DG} (hp : PassesOwn (model X.prog X.w) X.A X.env X.xe) (hc : X.calm = true) (hi : XI X tg iter di) (hg : XG X tg g) (hb : XSs X body t)
    (hs : ∀ x, foldedSetIterable iter X.env x = pure x := by intro _; rfl) : XS X (.For tg iter body [] pos) (dFor di g t) := by
  obtain ⟨t0, p0, s0⟩ := hi.ex
  obtain ⟨t1, p1, s1⟩ := hg.ex
  obtain ⟨t2, p2, s2⟩ := hb.ex
  refine ⟨_, ps_for hp hc p0 p1 p2 hs, fun r H S s env D' D R E d k => ?_⟩
  refine s0 r H S s env _ _ R E d fun r1 H1 S1 J its still e1 R1 ok d1 => ?_
  refine ⟨fun i m s' H' => i + m = its.length ∧ ∃ r' S' env', Ext X.K r1 H1 r' H' ∧ RelS X.K r' H' S' ∧ RepE X.K r' H' s' env' ∧ forW g t still (its.drop i) D' env' S', ⟨its.length, by omega, r1, S1, env, .refl, R1, E.mono e1, d1⟩, ?_⟩
  rintro i m s' H' ⟨hm, r', S', env', e', R', E', d'⟩
  cases hx : its[i]? with
  | none =>
    have hl : its.length ≤ i := List.getElem?_eq_none_iff.mp hx
    rw [List.drop_of_length_le hl] at d'
    obtain ⟨hst, d'⟩ := d'
    exact .inl ⟨ok.stop r' H' S' i e' R' hst hl, k.nx r' H' S' s' env' (e1.trans e') R' E' d'⟩
  | some x =>
    obtain ⟨hl, ex⟩ := List.getElem?_eq_some_iff.mp hx
    rw [List.drop_eq_getElem_cons hl, ex] at d'
    obtain ⟨hst, d'⟩ := d'
    obtain ⟨go, yl⟩ := ok.go r' H' S' i x e' R' hst hx
    refine .inr ⟨go, fun s3 H3 => ∃ r3 S3 env3, Ext X.K r1 H1 r3 H3 ∧ RelS X.K r3 H3 S3 ∧ RepE X.K r3 H3 s3 env3 ∧ forW g t still (its.drop (i + 1)) D' env3 S3, fun s3 H3 h3 => ⟨m - 1, by omega, by omega, h3⟩, fun v H3 hy => ?_⟩
    obtain ⟨e3, R3, q3⟩ := yl v H3 hy
    refine s1 r' H3 S' s' env' v x _ _ R3 (E'.mono e3) q3 d' fun r4 H4 S4 s4 env4 e4 R4 E4 d4 => ?_
    have e14 := (e'.trans e3).trans e4
    refine s2 r4 H4 S4 s4 env4 _ _ R4 E4 d4 ⟨?_, fun r5 H5 S5 v w e5 => k.rt r5 H5 S5 v w ((e1.trans e14).trans e5), fun r5 H5 S5 v w e5 => k.nx r5 H5 S5 v w ((e1.trans e14).trans e5), ?_⟩
    · intro r5 H5 S5 s5 env5 e5 R5 E5 q5
      exact ⟨r5, S5, env5, e14.trans e5, R5, E5, q5⟩
    · intro r5 H5 S5 s5 env5 e5 R5 E5 q5
      exact ⟨r5, S5, env5, e14.trans e5, R5, E5, q5⟩
/-- a list, a tuple -/
def tSeqI (K : Fg) (tl : TE) : TI := fun s H R => tl s H fun x H1 => ∃ a, x = .ref a ∧ (((∃ xs, SqL K H1 a xs) ∧ R (Itl K a) H1) ∨ ((∃ xs, SqT K H1 a xs) ∧ R (Itt K a) H1))
theorem pi_seq {tg l : Expr} {tl : TE} (hl : PE X l tl) : PI X tg l (tSeqI X.K tl) := by
  refine ⟨fun pins s σ H R I h => ?_⟩
  refine thn (hl.run pins s σ H _ I h) fun v s1 ⟨x, H1, I1, r1, q1⟩ => ?_
  obtain ⟨a, e, q⟩ := q1
  subst e
  cases r1
  rcases q with ⟨⟨xs, hq⟩, q⟩ | ⟨⟨xs, hq⟩, q⟩
  · obtain ⟨its, rv, p, hz⟩ := I1.list hq
    refine wpAny_pyIter_list p.isList ?_
    refine ⟨s1.heap.objs.size, [s1.heap.objs.size], _, _, H1, rfl, I1.kept (t' := s1.toks) fun b o e => Heap.get?_push_of_some _ e, turn_list a _, ⟨_, Heap.get?_push_size _ rfl, rfl, rfl⟩, fun b hb => ?_, q⟩
    have e : b = s1.heap.objs.size := by simpa using hb
    subst e
    exact I1.fpOk (Nat.le_refl _) (I1.hok.fresh (Nat.le_refl _))
  · obtain ⟨its, rv, p, hz⟩ := I1.tuple hq
    refine wpAny_pyIter_tuple (show s1.heap.IsTuple a its.toArray from p) ?_
    refine ⟨s1.heap.objs.size, [s1.heap.objs.size], _, _, H1, rfl, I1.kept (t' := s1.toks) fun b o e => Heap.get?_push_of_some _ e, turn_tuple a _, ⟨_, Heap.get?_push_size _ rfl, rfl, rfl⟩, fun b hb => ?_, q⟩
    have e : b = s1.heap.objs.size := by simpa using hb
    subst e
    exact I1.fpOk (Nat.le_refl _) (I1.hok.fresh (Nat.le_refl _))
def vSeqI (w : W) (S : Sto) (Q : List W → (Sto → Prop) → Sto → Prop) : Prop := match w with
  | .tup ws => Q ws (fun _ => True) S
  | .lit ws => Q ws (fun _ => True) S
  | .ref i => ∃ ws, S[i]? = some (.lst ws) ∧ Q ws (fun S' => S'[i]? = some (.lst ws)) S
  | _ => False
def iSeq (d : DE) : DI := fun env S Q => d env S fun w S1 => vSeqI w S1 Q
theorem seqAt_ok {K : Fg} {r : List Addr} {H : Hp} {S : Sto} {v : V} {w : W} {Q : List W → (Sto → Prop) → Sto → Prop} (R : RelS K r H S) (p : Rep K r H v w) (h : vSeqI w S Q) :
    ∃ a, v = .ref a ∧ ∃ its still, Q its still S ∧ (((∃ xs, SqL K H a xs) ∧ ItOk K (Itl K a) its still r H) ∨ ((∃ xs, SqT K H a xs) ∧ ItOk K (Itt K a) its still r H)) := by
  cases p with
  | @tup a xs ws q l =>
    refine ⟨a, rfl, _, _, h, .inr ⟨⟨_, q⟩, ⟨fun r' H' S' i x e' R' _ hx => ?_, fun r' H' S' i e' R' _ hl => ⟨_, e'.tup _ _ q, by rw [l.length]; exact hl⟩⟩⟩⟩
    obtain ⟨u, hu, pu⟩ := l.get hx
    refine ⟨⟨_, _, e'.tup _ _ q, hu⟩, fun v H3 hy => ?_⟩
    obtain ⟨rfl, f⟩ := hy
    have := Option.some.inj ((f _ (e'.tup _ _ q)).symm.trans hu)
    subst this
    exact ⟨.refl, R', pu.mono e'⟩
  | @lit a xs ws q l =>
    refine ⟨a, rfl, _, _, h, .inl ⟨⟨_, q.1⟩, ⟨fun r' H' S' i x e' R' _ hx => ?_, fun r' H' S' i e' R' _ hl => ⟨_, (q.mono e'.toKp).1, by rw [l.length]; exact hl⟩⟩⟩⟩
    obtain ⟨u, hu, pu⟩ := l.get hx
    refine ⟨⟨_, _, (q.mono e'.toKp).1, hu⟩, fun v H3 hy => ?_⟩
    obtain ⟨rfl, f⟩ := hy
    have := Option.some.inj ((f _ (q.mono e'.toKp).1).symm.trans hu)
    subst this
    exact ⟨.refl, R', pu.mono e'⟩
  | @ref a i q =>
    obtain ⟨ws, hs, h⟩ := h
    obtain ⟨xs, h1, l⟩ := R.obj i a _ q hs
    refine ⟨a, rfl, _, _, h, .inl ⟨⟨_, .of h1⟩, ⟨fun r' H' S' j x e' R' st hx => ?_, fun r' H' S' j e' R' st hl => ?_⟩⟩⟩
    · obtain ⟨ys, h2, l2⟩ := R'.obj i a _ (e'.pre _ _ q) st
      obtain ⟨u, hu, pu⟩ := l2.get hx
      refine ⟨⟨_, _, .of h2, hu⟩, fun v H3 hy => ?_⟩
      obtain ⟨rfl, f⟩ := hy
      have := Option.some.inj ((f _ (.of h2)).symm.trans hu)
      subst this
      exact ⟨.refl, R', pu⟩
    · obtain ⟨ys, h2, l2⟩ := R'.obj i a _ (e'.pre _ _ q) st
      exact ⟨_, .of h2, by rw [l2.length]; exact hl⟩
  | _ => exact h.elim
theorem xi_seq {tg l : Expr} {d : DE} (h : XE X l d) : XI X tg l (iSeq d) := by
  obtain ⟨t, p, s⟩ := h.ex
  refine ⟨_, pi_seq p, fun r H S st env Q Q0 R E g k => ?_⟩
  refine s r H S st env _ _ R E g fun r1 H1 S1 v w e1 R1 q1 d1 => ?_
  obtain ⟨a, rfl, its, still, q, h⟩ := seqAt_ok R1 q1 d1
  refine ⟨a, rfl, ?_⟩
  rcases h with ⟨hx, ok⟩ | ⟨hx, ok⟩
  · exact .inl ⟨hx, k r1 H1 S1 _ its still e1 R1 ok q⟩
  · exact .inr ⟨hx, k r1 H1 S1 _ its still e1 R1 ok q⟩
/-- range -/
def rngW (lo : Int) (n : Nat) : List W := (List.range n).map fun (i : Nat) => W.int (lo + (i : Int))
theorem rng_ok {K : Fg} {lo : Int} {n : Nat} {r : List Addr} {H : Hp} : ItOk K (Itr lo n) (rngW lo n) (fun _ => True) r H := by
  refine ⟨fun r' H' S' i x e R _ hx => ?_, fun r' H' S' i e R _ hl => ?_⟩
  · unfold rngW at hx
    rw [List.getElem?_map] at hx
    by_cases hi : i < n
    · rw [List.getElem?_range hi] at hx
      have e2 : W.int (lo + (i : Int)) = x := Option.some.inj hx
      subst e2
      refine ⟨hi, fun v H3 hy => ?_⟩
      obtain ⟨rfl, rfl⟩ := hy
      exact ⟨.refl, R, .int _⟩
    · rw [List.getElem?_eq_none (by rw [List.length_range]; omega)] at hx
      cases hx
  · unfold rngW at hl
    rw [List.length_map, List.length_range] at hl
    exact hl
def iRng1 (da : DA) : DI := fun env S Q => da env S fun ws S1 => ∃ j : Int, ws = [.int j] ∧ -(2 ^ 62) ≤ j ∧ j < 2 ^ 62 ∧ Q (rngW 0 j.toNat) (fun _ => True) S1
def iRng2 (da : DA) : DI := fun env S Q => da env S fun ws S1 => ∃ i j : Int, ws = [.int i, .int j] ∧ (-(2 ^ 62) ≤ i ∧ i < 2 ^ 62 ∧ -(2 ^ 62) ≤ j ∧ j < 2 ^ 62) ∧ Q (rngW i (j - i).toNat) (fun _ => True) S1
theorem xi_range1 {tg a : Expr} {da : DA} {p : Pos} (hg : Gl X "range") (hm : X.mg "range" = none) (ha : XA X [a] da) (hs : starEach [a] X.env = [(false, eval a X.env)] := by rfl) : XI X tg (.Call (.Name "range" p) [a] [] pos) (iRng1 da) := by
  obtain ⟨t, p, s⟩ := ha.ex
  refine ⟨_, pi_range1 hg hm p hs, fun r H S st env Q Q0 R E g k => ?_⟩
  refine s r H S st env _ _ R E g fun r1 H1 S1 vs ws e1 R1 q1 d1 => ?_
  obtain ⟨j, rfl, h1, h2, q⟩ := d1
  cases q1 with
  | cons a b =>
    cases b
    cases a
    exact ⟨j, rfl, h1, h2, k r1 H1 S1 _ _ _ e1 R1 rng_ok q⟩
theorem xi_range2 {tg a b : Expr} {da : DA} {p : Pos} (hg : Gl X "range") (hm : X.mg "range" = none) (ha : XA X [a, b] da) (hs : starEach [a, b] X.env = [(false, eval a X.env), (false, eval b X.env)] := by rfl) (hs2 : starEach [b] X.env = [(false, eval b X.env)] := by rfl) : XI X tg (.Call (.Name "range" p) [a, b] [] pos) (iRng2 da) := by
  obtain ⟨t, p, s⟩ := ha.ex
  refine ⟨_, pi_range2 hg hm p hs hs2, fun r H S st env Q Q0 R E g k => ?_⟩
  refine s r H S st env _ _ R E g fun r1 H1 S1 vs ws e1 R1 q1 d1 => ?_
  obtain ⟨i, j, rfl, h1, q⟩ := d1
  cases q1 with
  | cons a b =>
    cases b with
    | cons b c =>
      cases c
      cases a
      cases b
      exact ⟨i, j, rfl, h1, k r1 H1 S1 _ _ _ e1 R1 rng_ok q⟩
/-! ### list comprehensions -/
/-- a comprehension's target: it stores its own slots alone -/
def OwnG (t : TG) (vs : List Nat) : Prop := ∀ v s H (Q Q0 : L2.St → Hp → Prop) s0, wipe s vs = wipe s0 vs → t v s H Q → (∀ s2 H2, wipe s2 vs = wipe s0 vs → Q s2 H2 → Q0 s2 H2) → t v s H Q0
def OwnGs (t : TGs) (vs : List Nat) : Prop := ∀ v s H (Q Q0 : L2.St → Hp → Prop) s0, wipe s vs = wipe s0 vs → t v s H Q → (∀ s2 H2, wipe s2 vs = wipe s0 vs → Q s2 H2 → Q0 s2 H2) → t v s H Q0
theorem wipe_set {s : L2.St} {i : Nat} {x : Option V} : ∀ {vs : List Nat}, i ∈ vs → wipe (s.set i x) vs = wipe s vs
  | v :: vs, h => by
    unfold wipe
    by_cases hv : i ∈ vs
    · rw [wipe_set hv]
    · have e : i = v := by
        rcases List.mem_cons.mp h with e | m
        · exact e
        · exact (hv m).elim
      subst e
      rw [wipe_comm hv, List.set_set]
where wipe_comm {s : L2.St} {i : Nat} {x : Option V} : ∀ {vs : List Nat}, i ∉ vs → wipe (s.set i x) vs = (wipe s vs).set i x
  | [], _ => rfl
  | v :: vs, h => by
    unfold wipe
    rw [wipe_comm (fun m => h (List.mem_cons_of_mem _ m)), List.set_comm]
    intro e
    exact h (by rw [e]; exact List.mem_cons_self)
structure XCG (X : Cx) (vs : List Nat) (tg : Expr) (t : TG) (d : DG) : Prop where
  pg : PG X tg t
  sm : SimG X.K t d
  ow : OwnG t vs
structure XCGs (X : Cx) (vs : List Nat) (tg : List Expr) (t : TGs) (d : DGs) : Prop where
  pg : PGs X tg t
  sm : SimGs X.K t d
  ow : OwnGs t vs
theorem xcg_name {x : Str} {vs : List Nat} (i : Nat) (hN : X.N.Nodup) (hm : i ∈ vs := by decide) (hi : X.N[i]? = some x := by rfl) (hx : Loc X.env.scope x := by first | exact Or.inl rfl | exact Or.inr rfl) (hf : X.fn x = true ∨ X.env.scope.names.lookup x = some .local := by first | exact .inl rfl | exact .inr rfl) : XCG X vs (.Name x pos) (gName i) (gNm i) :=
  ⟨pg_name hN hi hx hf, fun r H S s env v w Q Q0 R E p d k => k r H S _ _ .refl R (E.set p i) d, fun v s H Q Q0 s0 e h k => k _ _ ((wipe_set hm).trans e) h⟩
theorem xcgs_nil {vs : List Nat} : XCGs X vs [] gNil gN0 := ⟨pgs_nil, fun r H S s env vs ws Q Q0 R E p d k => by
  obtain ⟨rfl, d⟩ := d
  cases p
  exact ⟨rfl, k r H S _ _ .refl R E d⟩, fun v s H Q Q0 s0 e h k => ⟨h.1, k _ _ e h.2⟩⟩
theorem xcgs_cons {vs : List Nat} {t : TG} {ts : TGs} {g : DG} {gs : DGs} (h1 : XCG X vs e t g) (h2 : XCGs X vs es ts gs) (hs : (assignEach (e :: es) X.env).map (·.2) = assign e X.env :: (assignEach es X.env).map (·.2) := by rfl) : XCGs X vs (e :: es) (gCons t ts) (gC g gs) := by
  obtain ⟨p1, s1, o1⟩ := h1
  obtain ⟨p2, s2, o2⟩ := h2
  refine ⟨pgs_cons p1 p2 hs, fun r H S s env vs ws Q Q0 R E p d k => ?_, fun v s H Q Q0 s0 ew h k => ?_⟩
  · obtain ⟨w, ws', rfl, d⟩ := d
    cases p with
    | cons q l =>
      refine ⟨_, _, rfl, ?_⟩
      refine s1 r H S s env _ _ _ _ R E q d fun r1 H1 S1 s1' env1 e1 R1 E1 d1 => ?_
      exact s2 r1 H1 S1 s1' env1 _ _ _ _ R1 E1 (l.mono e1) d1 fun r2 H2 S2 x y e2 => k r2 H2 S2 x y (e1.trans e2)
  · obtain ⟨x, xs, rfl, h⟩ := h
    exact ⟨x, xs, rfl, o1 x s H _ _ s0 ew h fun s2 H2 e2 h2 => o2 xs s2 H2 _ _ s0 e2 h2 k⟩
theorem xcg_tup {vs : List Nat} {k n : Nat} {ts : TGs} {gs : DGs} (hc : X.calm = true) (h : XCGs X vs es ts gs) (hn : (assignEach es X.env).length = n := by rfl) (hst : (assignEach es X.env).findIdx? (·.1) = none := by rfl) : XCG X vs (.Tuple es k pos) (gTup X.K n ts) (gTp n gs) := by
  obtain ⟨p1, s1, o1⟩ := h
  refine ⟨pg_tup hc p1 hn hst, fun r H S s env v w Q Q0 R E p d k => ?_, fun v s H Q Q0 s0 ew h k => ?_⟩
  · obtain ⟨ws, rfl, hl, d⟩ := d
    cases p with
    | tup q l =>
      exact ⟨_, _, rfl, q, by rw [l.length]; exact hl, s1 r H S s env _ _ _ _ R E l d k⟩
  · obtain ⟨a, xs, rfl, q, hl, h⟩ := h
    exact ⟨a, xs, rfl, q, hl, o1 xs s H _ _ s0 ew h k⟩
theorem wipe_wipe {s : L2.St} {vs : List Nat} : wipe (wipe s vs) vs = wipe s vs := by
  have h : ∀ us : List Nat, (∀ u ∈ us, u ∈ vs) → wipe (wipe s us) vs = wipe s vs := by
    intro us
    induction us with
    | nil => intro _; rfl
    | cons u us ih =>
      intro hu
      show wipe ((wipe s us).set u none) vs = _
      rw [wipe_set (hu u List.mem_cons_self)]
      exact ih fun w hw => hu w (List.mem_cons_of_mem _ hw)
  exact h vs fun _ hu => hu
def compW (g : DG) (tt : DT) (te : DE) (vs : List Nat) (still : Sto → Prop) (env : Slots) (Q : WK) : List W → List W → Sto → Prop
  | [], acc, S => still S ∧ Q (.ref S.length) (S ++ [.lst acc])
  | x :: r, acc, S => still S ∧ g x (wipeW env vs) S fun env2 S2 => tt env2 S2 fun b S3 => if b = true then te env2 S3 fun y S4 => acc.length < sizeLine ∧ compW g tt te vs still env Q r (acc ++ [y]) S4 else compW g tt te vs still env Q r acc S3
def dComp (di : DI) (g : DG) (tt : DT) (te : DE) (vs : List Nat) : DE := fun env S Q => di env S fun its still S1 => compW g tt te vs still env Q its [] S1
theorem sim_comp {K : Fg} {wi : TI} {tg : TG} {tt : TT} {te : TE} {di : DI} {g : DG} {dt : DT} {de : DE} {vs : List Nat} (si : SimI K wi di) (sg : SimG K tg g) (og : OwnG tg vs) (st : SimT K tt dt) (se : Sim K te de) : Sim K (tLc wi tg tt te vs) (dComp di g dt de vs) := by
  intro r H S s env Q Q0 R E d k
  refine si r H S s env _ _ R E d fun r1 H1 S1 J its still e1 R1 ok d1 => ?_
  intro Dl hD
  have nD := R1.notin hD
  refine ⟨fun i m H' => i + m = its.length ∧ ∃ r' S' acc accv, Ext K r1 H1 r' H' ∧ RelS K r' H' S' ∧ Dl ∉ r' ∧ H' Dl = some (.lst accv) ∧ RepL K r' H' accv acc ∧ compW g dt de vs still env Q (its.drop i) acc S',
    ⟨its.length, by omega, r1, S1, [], [], ext_new hD, rel_new R1 hD, nD, upd_same, .nil, d1⟩, ?_⟩
  rintro i m H' ⟨hm, r', S', acc, accv, e', R', n', hl, ra, d'⟩
  cases hx : its[i]? with
  | none =>
    have hle : its.length ≤ i := List.getElem?_eq_none_iff.mp hx
    rw [List.drop_of_length_le hle] at d'
    obtain ⟨hst, d'⟩ := d'
    exact .inl ⟨ok.stop r' H' S' i e' R' hst hle, k _ H' _ _ _ (e1.trans (e'.join hD)) (R'.join n' hl ra) (rep_mem R') d'⟩
  | some x =>
    obtain ⟨hlt, ex⟩ := List.getElem?_eq_some_iff.mp hx
    rw [List.drop_eq_getElem_cons hlt, ex] at d'
    obtain ⟨hst, d'⟩ := d'
    obtain ⟨go, yl⟩ := ok.go r' H' S' i x e' R' hst hx
    refine .inr ⟨go, fun H3 => ∃ r' S' acc accv, Ext K r1 H1 r' H3 ∧ RelS K r' H3 S' ∧ Dl ∉ r' ∧ H3 Dl = some (.lst accv) ∧ RepL K r' H3 accv acc ∧ compW g dt de vs still env Q (its.drop (i + 1)) acc S', fun H3 h3 => ⟨m - 1, by omega, by omega, h3⟩, fun v H3 hy => ?_⟩
    obtain ⟨e3, R3, q3⟩ := yl v H3 hy
    have e13 := e'.trans e3
    obtain ⟨n3, hl3⟩ := e3.apart n' hl
    have E3 := (E.mono (e1.trans e13)).wipe vs
    refine og v (wipe s vs) H3 _ _ (wipe s vs) rfl (sg r' H3 S' (wipe s vs) (wipeW env vs) v x _ (fun s4 H4 => ∃ r4 S4 env4, Ext K r' H3 r4 H4 ∧ RelS K r4 H4 S4 ∧ RepE K r4 H4 s4 env4 ∧ dt env4 S4 fun b S5 => if b = true then de env4 S5 fun y S6 => acc.length < sizeLine ∧ compW g dt de vs still env Q (its.drop (i + 1)) (acc ++ [y]) S6 else compW g dt de vs still env Q (its.drop (i + 1)) acc S5) R3 E3 q3 d' fun r4 H4 S4 s4 env4 e4 R4 E4 d4 => ⟨r4, S4, env4, e4, R4, E4, d4⟩) fun s4 H4 hw h4 => ?_
    obtain ⟨r4, S4, env4, e4, R4, E4, d4⟩ := h4
    refine ⟨by rw [hw, wipe_wipe], ?_⟩
    refine st r4 H4 S4 s4 env4 _ _ R4 E4 d4 fun r5 H5 S5 b e5 R5 d5 => ?_
    have e15 := (e13.trans e4).trans e5
    have e35 := e4.trans e5
    obtain ⟨n5, hl5⟩ := e35.apart n3 hl3
    cases b with
    | true =>
      rw [if_pos rfl] at d5 ⊢
      refine se r5 H5 S5 s4 env4 _ _ R5 (E4.mono e5) d5 fun r6 H6 S6 y w e6 R6 q6 d6 => ?_
      obtain ⟨n6, hl6⟩ := e6.apart n5 hl5
      have ra6 := ra.mono ((e3.trans e35).trans e6)
      refine ⟨accv, hl6, by rw [ra6.length]; exact d6.1, r6, S6, acc ++ [w], accv ++ [y], (e15.trans e6).hid hD hl6 trivial, R6.hid n6 hl6 trivial, n6, upd_same, ?_, d6.2⟩
      exact (ra6.app (.one q6)).mono' (Kp.hid hl6 trivial)
    | false =>
      rw [if_neg Bool.false_ne_true] at d5 ⊢
      exact ⟨r5, S5, acc, accv, e15, R5, n5, hl5, ra.mono (e3.trans e35), d5⟩
/-! a reading that hangs on K alone -/
def canE (K : Fg) (d : DE) : TE := fun s H Q0 => ∃ (r : List Addr) (S : Sto) (env : Slots) (Q : WK), RelS K r H S ∧ RepE K r H s env ∧ d env S Q ∧ ∀ r' H' S' v w, Ext K r H r' H' → RelS K r' H' S' → Rep K r' H' v w → Q w S' → Q0 v H'
def canT (K : Fg) (d : DT) : TT := fun s H Q0 => ∃ (r : List Addr) (S : Sto) (env : Slots) (Q : Bool → Sto → Prop), RelS K r H S ∧ RepE K r H s env ∧ d env S Q ∧ ∀ r' H' S' b, Ext K r H r' H' → RelS K r' H' S' → Q b S' → Q0 b H'
theorem canE_sim {K : Fg} {d : DE} : Sim K (canE K d) d := fun r H S s env Q Q0 R E h k => ⟨r, S, env, Q, R, E, h, k⟩
theorem canT_sim {K : Fg} {d : DT} : SimT K (canT K d) d := fun r H S s env Q Q0 R E h k => ⟨r, S, env, Q, R, E, h, k⟩
theorem XE.pe {d : DE} (h : XE X e d) : PE X e (canE X.K d) := by
  obtain ⟨t, p, s⟩ := h.ex
  exact ⟨fun pins st σ H Q I ⟨r, S, env, Q', R, E, hd, k⟩ => p.run pins st σ H Q I (s r H S σ env Q' Q R E hd k)⟩
structure XTs (X : Cx) (ifs : List Expr) (d : DT) : Prop where
  ex : ∃ tt, PTs X ifs tt ∧ SimT X.K tt d
def dYes : DT := fun _ S Q => Q true S
theorem xts_nil : XTs X [] dYes := ⟨_, pts_nil, fun r H S s env Q Q0 R E d k => k r H S true .refl R d⟩
theorem xts_one {c : Expr} {d : DT} (h : XT X c d) : XTs X [c] d := by
  obtain ⟨t, p, s⟩ := h.ex
  exact ⟨_, pts_one p, s⟩
theorem XTs.pt {ifs : List Expr} {d : DT} (h : XTs X ifs d) : PTs X ifs (canT X.K d) := by
  obtain ⟨t, p, s⟩ := h.ex
  exact ⟨fun pins st σ H Q I ⟨r, S, env, Q', R, E, hd, k⟩ => p.run pins st σ H Q I (s r H S σ env Q' Q R E hd k)⟩
end
section
variable {X : Cx} {pos : Pos}
theorem xe_comp {elt tg iter : Expr} {ifs : List Expr} {scope : Scope} {di : DI} {t : TG} {g : DG} {dt : DT} {de : DE} (own : List (Str × Nat)) (hc : X.calm = true) (hN : X.N.Nodup) (hi : XI X tg iter di) (ok : BlkOk X.N X.env.scope scope own)
    (hg : ∀ (s : Shared) (H : Hp) (C : Addr) (cl : List (Str × Addr)) (fp : List Addr), XCG (X.blk s H scope (compEnvC scope cl C X.env) fp) (own.map (·.2)) tg t g)
    (ht : ∀ (s : Shared) (H : Hp) (C : Addr) (cl : List (Str × Addr)) (fp : List Addr), XTs (X.blk s H scope (compEnvC scope cl C X.env) fp) ifs dt)
    (he : ∀ (s : Shared) (H : Hp) (C : Addr) (cl : List (Str × Addr)) (fp : List Addr), XE (X.blk s H scope (compEnvC scope cl C X.env) fp) elt de)
    (hs : ∀ x, foldedSetIterable iter X.env x = pure x := by intro _; rfl) : XE X (.ListComp elt [⟨tg, iter, ifs, 0⟩] scope pos) (dComp di g dt de (own.map (·.2))) := by
  obtain ⟨wi, p, si⟩ := hi.ex
  have g0 := hg {} (fun _ => none) 0 [] []
  exact ⟨_, pe_lc hc hN p ok (fun s H C cl fp => (hg s H C cl fp).pg) (fun s H C cl fp => (ht s H C cl fp).pt) (fun s H C cl fp => (he s H C cl fp).pe) hs, sim_comp si g0.sm g0.ow canT_sim canE_sim⟩
theorem xs_setComp {y : Str} {py spos : Pos} {elt tg iter : Expr} {ifs : List Expr} {scope : Scope} {di : DI} {t : TG} {g : DG} {dt : DT} {de : DE} (i : Nat) (own : List (Str × Nat)) (hc : X.calm = true) (hN : X.N.Nodup) (hi : XI X tg iter di) (ok : BlkOk X.N X.env.scope scope own)
    (hg : ∀ (s : Shared) (H : Hp) (C : Addr) (cl : List (Str × Addr)) (fp : List Addr), XCG (X.blk s H scope (compEnvC scope cl C X.env) fp) (own.map (·.2)) tg t g)
    (ht : ∀ (s : Shared) (H : Hp) (C : Addr) (cl : List (Str × Addr)) (fp : List Addr), XTs (X.blk s H scope (compEnvC scope cl C X.env) fp) ifs dt)
    (he : ∀ (s : Shared) (H : Hp) (C : Addr) (cl : List (Str × Addr)) (fp : List Addr), XE (X.blk s H scope (compEnvC scope cl C X.env) fp) elt de)
    (hsw : swapsWith (.ListComp elt [⟨tg, iter, ifs, 0⟩] scope pos) (some (.Name y py)) spos.line X.env = pure true) (hy : X.N[i]? = some y := by rfl) (hyl : X.env.scope.names.lookup y = some .local := by rfl) (hs : ∀ x, foldedSetIterable iter X.env x = pure x := by intro _; rfl) :
    XS X (.Assign [.Name y py] (.ListComp elt [⟨tg, iter, ifs, 0⟩] scope pos) spos) (dAsg (dComp di g dt de (own.map (·.2))) (gNm i)) := by
  obtain ⟨wi, p, si⟩ := hi.ex
  have g0 := hg {} (fun _ => none) 0 [] []
  exact ⟨_, ps_setLc hc hN hy hyl hsw p ok (fun s H C cl fp => (hg s H C cl fp).pg) (fun s H C cl fp => (ht s H C cl fp).pt) (fun s H C cl fp => (he s H C cl fp).pe) hs, sim_asg (sim_comp si g0.sm g0.ow canT_sim canE_sim) fun r H S s env v w Q Q0 R E p d k => k r H S _ _ .refl R (E.set p i) d⟩
/-! ### defs -/
abbrev DSpec := List W → Sto → WK → Prop
def spOf (K : Fg) (F : DSpec) : Sp := fun vs H Q _ => ∃ (r : List Addr) (S : Sto) (ws : List W) (Q' : WK), RelS K r H S ∧ RepL K r H vs ws ∧ F ws S Q' ∧ ∀ r' H' S' v w, Ext K r H r' H' → RelS K r' H' S' → Rep K r' H' v w → Q' w S' → Q v H'
def dCall (F : DSpec) (da : DA) : DE := fun env S Q => da env S fun ws S1 => F ws S1 Q
theorem sim_call {K : Fg} {F : DSpec} {ta : TA} {da : DA} (sa : SimA K ta da) : Sim K (tCall (spOf K F) [] E0 ta) (dCall F da) := fun r H S s env Q Q0 R E d k =>
  sa r H S s env _ _ R E d fun r1 H1 S1 vs ws e1 R1 q1 d1 => ⟨r1, S1, ws, Q, R1, by rw [List.append_nil]; exact q1, d1, fun r2 H2 S2 v w e2 => k r2 H2 S2 v w (e1.trans e2)⟩
theorem xe_call {x : Str} {p : Pos} {e : Expr} {es : List Expr} {da : DA} {k : Nat} {f : Addr} {fd : FuncData} {ps : List Str} {F : DSpec} (G : FnOk X.prog X.w X.K X.mg X.base CX0 k f fd ps (spOf X.K F)) (hr : Room k X.A) (hg : Gl X x) (hm : X.mg x = some (.ref f)) (hk : PySem.W.keepIn X.K (.ref f) = true) (hb : Binds X.K fd ps [])
    (ha : XA X (e :: es) da) (hdb : (x == ("__debug__" : Str)) = false := by decide) (he : starEach (e :: es) X.env = (false, eval e X.env) :: starEach es X.env := by rfl) (hpl : (backTo pos (starEach es X.env)).any (·.1) = false := by rfl) :
    XE X (.Call (.Name x p) (e :: es) [] pos) (dCall F da) := by
  obtain ⟨t, pa, sa⟩ := ha.ex
  exact ⟨_, pe_call G hr hg hm hk hb .nil pass0 pa hdb he hpl, sim_call sa⟩
theorem xe_call0 {x : Str} {p : Pos} {k : Nat} {f : Addr} {fd : FuncData} {ps : List Str} {F : DSpec} (G : FnOk X.prog X.w X.K X.mg X.base CX0 k f fd ps (spOf X.K F)) (hr : Room k X.A) (hg : Gl X x) (hm : X.mg x = some (.ref f)) (hk : PySem.W.keepIn X.K (.ref f) = true) (hb : Binds X.K fd ps [])
    (hdb : (x == ("__debug__" : Str)) = false := by decide) : XE X (.Call (.Name x p) [] [] pos) (dCall F aNil) :=
  ⟨_, pe_call0 G hr hg hm hk hb .nil pass0 hdb, sim_call fun r H S s env Q Q0 R E d k => k r H S [] [] .refl R .nil d⟩
end
/-- the slots at the entry -/
def startW (n : Nat) (ws : List W) : Slots := ws.map some ++ List.replicate (n - ws.length) none
mutual
def W.bnd (n : Nat) : W → Bool
  | .tup ws => W.bndL n ws
  | .lit ws => W.bndL n ws
  | .ref i => decide (i < n)
  | _ => true
def W.bndL (n : Nat) : List W → Bool
  | [] => true
  | w :: ws => w.bnd n && W.bndL n ws
end
def O.bnd (n : Nat) : O → Bool
  | .lst ws => W.bndL n ws
  | .dk kvs => W.bndL n (kvs.map (·.2))
/-- every reference leads into the store -/
def Closed (S : Sto) : Prop := ∀ (i : Nat) (o : O), S[i]? = some o → o.bnd S.length = true
section
variable {K : Fg} {r : List Addr} {H : Hp} {S : Sto}
mutual
theorem Rep.bnd (R : RelS K r H S) : ∀ {v : V} {w : W}, Rep K r H v w → w.bnd S.length = true
  | _, _, .non => rfl
  | _, _, .bl b => rfl
  | _, _, .int i => rfl
  | _, _, .str x => rfl
  | _, _, .tup h l => by
    show W.bndL _ _ = true
    exact RepL.bnd R l
  | _, _, .lit h l => by
    show W.bndL _ _ = true
    exact RepL.bnd R l
  | _, _, .ref h => by
    show decide _ = true
    exact decide_eq_true (R.lt h)
  | _, _, .raw v => rfl
theorem RepL.bnd (R : RelS K r H S) : ∀ {vs : List V} {ws : List W}, RepL K r H vs ws → W.bndL S.length ws = true
  | _, _, .nil => rfl
  | _, _, .cons h l => by
    show (W.bnd _ _ && W.bndL _ _) = true
    rw [Rep.bnd R h, RepL.bnd R l]
    rfl
end
theorem RelS.closed (R : RelS K r H S) : Closed S := fun i o h => by
  obtain ⟨a, _, x⟩ := R.at h
  cases o with
  | lst ws =>
    obtain ⟨xs, _, l⟩ := x
    exact l.bnd R
  | dk kvs =>
    obtain ⟨xs, _, _, l⟩ := x
    exact l.bnd R
end
mutual
def W.ren (f : List Nat) : W → W
  | .tup ws => .tup (W.renL f ws)
  | .lit ws => .lit (W.renL f ws)
  | .ref i => .ref (f.getD i 0)
  | w => w
def W.renL (f : List Nat) : List W → List W
  | [] => []
  | w :: ws => w.ren f :: W.renL f ws
end
def O.ren (f : List Nat) : O → O
  | .lst ws => .lst (W.renL f ws)
  | .dk kvs => .dk (kvs.map fun kv => (kv.1, kv.2.ren f))
theorem renL_map (f : List Nat) : ∀ ws : List W, W.renL f ws = ws.map (W.ren f)
  | [] => rfl
  | w :: ws => congrArg _ (renL_map f ws)
section
variable {K : Fg} {r : List Addr} {H : Hp} {S : Sto} {f : List Nat}
def pickA (f : List Nat) (r : List Addr) : List Addr := f.map fun i => r.getD i 0
theorem pickA_get (hf : ∀ j ∈ f, j < r.length) {i j : Nat} (h : f[i]? = some j) : (pickA f r)[i]? = r[j]? := by
  have hj := hf j (List.mem_of_getElem? h)
  unfold pickA
  rw [List.getElem?_map, h]
  show some (r.getD j 0) = _
  rw [List.getD_eq_getElem?_getD, List.getElem?_eq_getElem hj]
  rfl
mutual
theorem Rep.unren (hf : ∀ j ∈ f, j < r.length) : ∀ (w : W) {v : V}, Rep K r H v (w.ren f) → w.bnd f.length = true → Rep K (pickA f r) H v w
  | .non, _, h, _ => by cases h; exact .non
  | .bl b, _, h, _ => by cases h; exact .bl b
  | .int i, _, h, _ => by cases h; exact .int i
  | .str x, _, h, _ => by cases h; exact .str x
  | .raw v, _, h, _ => by cases h; exact .raw v
  | .ref i, _, h, b => by
    have hi : i < f.length := of_decide_eq_true b
    have h' : Rep K r H _ (.ref (f.getD i 0)) := h
    rw [List.getD_eq_getElem?_getD, List.getElem?_eq_getElem hi] at h'
    cases h' with
    | ref q => exact .ref (by rw [pickA_get hf (List.getElem?_eq_getElem hi)]; exact q)
  | .tup ws, _, h, b => by
    cases h with
    | tup q l => exact .tup q (RepL.unren hf ws l b)
  | .lit ws, _, h, b => by
    cases h with
    | lit q l => exact .lit q (RepL.unren hf ws l b)
theorem RepL.unren (hf : ∀ j ∈ f, j < r.length) : ∀ (ws : List W) {vs : List V}, RepL K r H vs (W.renL f ws) → W.bndL f.length ws = true → RepL K (pickA f r) H vs ws
  | [], _, h, _ => by cases h; exact .nil
  | w :: ws, _, h, b => by
    have b' : (W.bnd f.length w && W.bndL f.length ws) = true := b
    rw [Bool.and_eq_true] at b'
    cases h with
    | cons q l => exact .cons (Rep.unren hf w q b'.1) (RepL.unren hf ws l b'.2)
end
mutual
theorem W.ren_id {n : Nat} : ∀ w : W, w.bnd n = true → w.ren (List.range n) = w
  | .non, _ => rfl
  | .bl b, _ => rfl
  | .int i, _ => rfl
  | .str x, _ => rfl
  | .raw v, _ => rfl
  | .ref i, b => by
    have hi : i < n := of_decide_eq_true b
    show W.ref ((List.range n).getD i 0) = _
    rw [List.getD_eq_getElem?_getD, List.getElem?_range hi]
    rfl
  | .tup ws, b => by
    show W.tup (W.renL _ ws) = _
    rw [W.renL_id ws b]
  | .lit ws, b => by
    show W.lit (W.renL _ ws) = _
    rw [W.renL_id ws b]
theorem W.renL_id {n : Nat} : ∀ ws : List W, W.bndL n ws = true → W.renL (List.range n) ws = ws
  | [], _ => rfl
  | w :: ws, b => by
    have b' : (W.bnd n w && W.bndL n ws) = true := b
    rw [Bool.and_eq_true] at b'
    show w.ren _ :: W.renL _ ws = _
    rw [W.ren_id w b'.1, W.renL_id ws b'.2]
end
theorem O.ren_id {n : Nat} : ∀ o : O, o.bnd n = true → o.ren (List.range n) = o
  | .lst ws, b => by
    show O.lst _ = _
    rw [W.renL_id ws b]
  | .dk kvs, b => by
    have go : ∀ kvs : List (Key × W), W.bndL n (kvs.map (·.2)) = true → (kvs.map fun kv => (kv.1, kv.2.ren (List.range n))) = kvs := by
      intro kvs
      induction kvs with
      | nil => intro _; rfl
      | cons kv r ih =>
        intro b
        have b' : (W.bnd n kv.2 && W.bndL n (r.map (·.2))) = true := b
        rw [Bool.and_eq_true] at b'
        rw [List.map_cons, ih b'.2, W.ren_id _ b'.1]
    show O.dk _ = _
    rw [go kvs b]
end
/-- what a def hands back: the store laid anew by f (place i comes from f[i]); what is not named is forgotten -/
def Ends0 (n : Nat) (Q : WK) : WK := fun w S' => ∃ (f : List Nat) (S0 : Sto) (w0 : W), f.length = S0.length ∧ (∀ i, i < n → f[i]? = some i) ∧ f.Nodup ∧
  (∀ (i : Nat) (o : O), S0[i]? = some o → o.bnd f.length = true ∧ ∃ j, f[i]? = some j ∧ S'[j]? = some (o.ren f)) ∧ w = w0.ren f ∧ w0.bnd f.length = true ∧ Q w0 S0
theorem Ends0.drop {n : Nat} {Q : WK} {w : W} {S0 : Sto} (T : Sto) (hn : n ≤ S0.length) (c : Closed S0) (hb : w.bnd S0.length = true) (q : Q w S0) : Ends0 n Q w (S0 ++ T) := by
  refine ⟨List.range S0.length, S0, w, List.length_range, fun i hi => List.getElem?_range (by omega), List.nodup_range, fun i o h => ?_, (W.ren_id w hb).symm, by rw [List.length_range]; exact hb, q⟩
  have hi : i < S0.length := (List.getElem?_eq_some_iff.mp h).1
  have b := c i o h
  exact ⟨by rw [List.length_range]; exact b, i, List.getElem?_range hi, by rw [List.getElem?_append_left hi, h, O.ren_id o b]⟩
theorem Ends0.keep {n : Nat} {Q : WK} {w : W} {S0 : Sto} (hn : n ≤ S0.length) (c : Closed S0) (hb : w.bnd S0.length = true) (q : Q w S0) : Ends0 n Q w S0 := by
  have h := Ends0.drop (n := n) (Q := Q) (w := w) (S0 := S0) [] hn c hb q
  rw [List.append_nil] at h
  exact h
section
variable {P : Program} {w : World} {K : Fg} {mg : Str → Option Value} {base : Heap}
theorem ends_sim {r r' : List Addr} {H H' : Hp} {S S' : Sto} {Q : WK} {w : W} {v : V} (R : RelS K r H S) (e : Ext K r H r' H') (R' : RelS K r' H' S') (p : Rep K r' H' v w) (h : Ends0 S.length Q w S') :
    ∃ r0 S0 w0, Ext K r H r0 H' ∧ RelS K r0 H' S0 ∧ Rep K r0 H' v w0 ∧ Q w0 S0 := by
  obtain ⟨f, S0, w0, hl, hn, nd, ho, rfl, hb, q⟩ := h
  have hf : ∀ j ∈ f, j < r'.length := fun j hj => by
    obtain ⟨i, hi, e1⟩ := List.mem_iff_getElem.mp hj
    obtain ⟨_, j', h1, h2⟩ := ho i S0[i] (List.getElem?_eq_getElem (by rw [← hl]; exact hi))
    rw [List.getElem?_eq_getElem hi, e1] at h1
    cases h1
    rw [R'.len]
    exact (List.getElem?_eq_some_iff.mp h2).1
  refine ⟨pickA f r', S0, w0, ⟨⟨fun i a h => ?_, e.tup, e.frz⟩, e.oth, fun b hb' n' => ?_⟩, ⟨by rw [pickA, List.length_map]; exact hl, ?_, fun i a o ha hs => ?_⟩, Rep.unren hf w0 p hb, q⟩
  · rw [pickA_get hf (hn i (R.lt h))]
    exact e.pre i a h
  · obtain ⟨j, hj, e1⟩ := List.mem_map.mp hb'
    have lj := hf j hj
    rw [List.getD_eq_getElem?_getD, List.getElem?_eq_getElem lj] at e1
    have e2 : r'[j] = b := e1
    exact e.new b (by rw [← e2]; exact List.getElem_mem lj) n'
  · refine (List.pairwise_map).mpr ?_
    refine List.Pairwise.imp_of_mem (fun {a b} ha hb' hne he => ?_) nd
    have la := hf a ha
    have lb := hf b hb'
    rw [List.getD_eq_getElem?_getD, List.getD_eq_getElem?_getD, List.getElem?_eq_getElem la, List.getElem?_eq_getElem lb] at he
    exact hne ((List.getElem_inj R'.nd).mp (show r'[a] = r'[b] from he))
  · obtain ⟨b, j, h1, h2⟩ := ho i o hs
    rw [pickA_get hf h1] at ha
    have x := R'.obj j a _ ha h2
    cases o with
    | lst ws =>
      obtain ⟨xs, h3, l⟩ := x
      exact ⟨xs, h3, RepL.unren hf ws l b⟩
    | dk kvs =>
      obtain ⟨xs, h3, h4, l⟩ := x
      have b' : W.bndL f.length (kvs.map (·.2)) = true := b
      refine ⟨xs, h3, ?_, RepL.unren hf (kvs.map (·.2)) ?_ b'⟩
      · rw [h4, List.map_map]
        rfl
      · rw [renL_map, List.map_map]
        rw [List.map_map] at l
        exact l
theorem fn_d {x qual : Str} {st : Stmt} {f : Addr} {fd : FuncData} {N ps : List Str} {k : Nat} {F : DSpec} (Fu : Fun K x qual st f fd) (Sc : FnScope N ps (defScope st)) (len : ∀ ws S Q, F ws S Q → ws.length = ps.length)
    (hb : ∀ (cdv : Value) (A : Around) (outer : List PySem.Env) (s : Shared) (H : Hp) (E : XK), Room k (A.deeper (envOfC qual (defScope st) s.heap.objs.size f cdv)) →
      ∃ d, XSs (cxOf CX0 P w K mg base N qual (defScope st) f cdv A outer s H E).nox (defBody st) d ∧
        ∀ ws S Q, Closed S → F ws S Q → d { nx := fun _ S' => Ends0 S.length Q .non S', rt := Ends0 S.length Q, bk := fun _ _ => False, ct := fun _ _ => False } (startW N.length ws) S) :
    FnOk P w K mg base CX0 (k + 1) f fd ps (spOf K F) := by
  refine Fu.ok Sc (fun vs H Q E h => ?_) (fun cdv A outer s H vs Q E hr h => ?_)
  · obtain ⟨r, S, ws, Q', R, l, hF, _⟩ := h
    rw [l.length]
    exact len ws S Q' hF
  · obtain ⟨d, hx, hd⟩ := hb cdv A outer s H E hr
    obtain ⟨t, pt, st⟩ := hx.ex
    obtain ⟨r, S, ws, Q', R, l, hF, k⟩ := h
    refine ⟨t, pt, ?_⟩
    refine st r H S _ _ _ _ R (RepE.start l) (hd ws S Q' R.closed hF) ⟨?_, ?_, fun _ _ _ _ _ _ _ _ h => h, fun _ _ _ _ _ _ _ _ h => h⟩
    · intro r' H' S' s' env' e' R' E' h
      obtain ⟨r0, S0, w0, e0, R0, p0, q⟩ := ends_sim R e' R' .non h
      exact k r0 H' S0 _ w0 e0 R0 p0 q
    · intro r' H' S' v w e' R' p' h
      obtain ⟨r0, S0, w0, e0, R0, p0, q⟩ := ends_sim R e' R' p' h
      exact k r0 H' S0 _ w0 e0 R0 p0 q
end
end DL

/-! DLd: operators, built-ins, methods by values. -/
namespace DL
open PySem PySem.Spec PyProof.Rows L2

/-! ### sequences, data -/
def seqOf (S : Sto) : W → Option (List W)
  | .tup ws => some ws
  | .lit ws => some ws
  | .ref i => match S[i]? with
    | some (.lst ws) => some ws
    | _ => none
  | _ => none
mutual
def W.pure : W → Bool
  | .tup ws => W.pureL ws
  | .lit ws => W.pureL ws
  | .ref _ => false
  | .raw _ => false
  | _ => true
def W.pureL : List W → Bool
  | [] => true
  | w :: ws => w.pure && W.pureL ws
end
mutual
def datW : W → PyData
  | .non => .none
  | .bl b => .bool b
  | .int i => .int i
  | .str x => .str x
  | .tup ws => .tuple (datWs ws)
  | .lit ws => .list (datWs ws)
  | .ref _ => .none
  | .raw _ => .none
def datWs : List W → List PyData
  | [] => []
  | w :: ws => datW w :: datWs ws
end
def dataS (S : Sto) (w : W) : Option PyData := match w with
  | .ref i => match S[i]? with
    | some (.lst ws) => if W.pureL ws then some (.list (datWs ws)) else none
    | _ => none
  | w => if w.pure then some (datW w) else none
/-- == of scalars -/
def scW : W → W → Option Bool
  | .int i, .int j => some (decide (i = j))
  | .str a, .str b => some (decide (a = b))
  | .bl a, .bl b => some (decide (a = b))
  | .non, .non => some true
  | .non, .int _ => some false | .int _, .non => some false | .non, .bl _ => some false | .bl _, .non => some false
  | .non, .str _ => some false | .str _, .non => some false | .int _, .str _ => some false | .str _, .int _ => some false
  | .bl _, .str _ => some false | .str _, .bl _ => some false
  | _, _ => none
def flW : W → Bool
  | .non => true | .bl _ => true | .int _ => true | .str _ => true | _ => false
def eqW : W → W → Bool
  | .non, .non => true
  | .bl a, .bl b => a == b
  | .bl a, .int b => (if a then 1 else 0) == b
  | .int a, .bl b => a == (if b then 1 else 0)
  | .int a, .int b => a == b
  | .str a, .str b => a == b
  | _, _ => false
def inW (x : W) (ws : List W) : Bool := ws.any fun y => eqW y x
section
variable {K : Fg} {r : List Addr} {H : Hp} {S : Sto}
theorem relO_there {i : Nat} {a : Addr} (R : RelS K r H S) (ha : r[i]? = some a) : ∃ ob, S[i]? = some ob ∧ RelO K r H a ob := by
  have l := R.lt ha
  exact ⟨S[i], List.getElem?_eq_getElem l, R.obj i a _ ha (List.getElem?_eq_getElem l)⟩
theorem seqOf_sim {v : V} {w : W} {ws : List W} (R : RelS K r H S) (p : Rep K r H v w) (h : seqOf S w = some ws) : ∃ a xs, v = .ref a ∧ (SqL K H a xs ∨ SqT K H a xs) ∧ RepL K r H xs ws := by
  cases p with
  | tup q l =>
    cases Option.some.inj h
    exact ⟨_, _, rfl, .inr q, l⟩
  | lit q l =>
    cases Option.some.inj h
    exact ⟨_, _, rfl, .inl q.1, l⟩
  | @ref a i q =>
    obtain ⟨o, ho, x⟩ := relO_there R q
    have e : seqOf S (.ref i) = some ws := h
    simp only [seqOf, ho] at e
    cases o with
    | lst us =>
      cases Option.some.inj e
      obtain ⟨xs, h1, l⟩ := x
      exact ⟨_, _, rfl, .inl (.of h1), l⟩
    | dk us => cases e
  | _ => cases h
theorem seqOf_ref {i : Nat} {ws : List W} (h : S[i]? = some (.lst ws)) : seqOf S (.ref i) = some ws := by simp only [seqOf, h]
theorem repL_strs : ∀ {vs : List V} {ys : List Str}, RepL K r H vs (ys.map W.str) → vs = ys.map V.str
  | _, [], .nil => rfl
  | _, y :: ys, .cons h l => by
    cases h
    rw [repL_strs l]
    rfl
theorem repL_ints : ∀ {vs : List V} {ys : List Int}, RepL K r H vs (ys.map W.int) → vs = ys.map V.int
  | _, [], .nil => rfl
  | _, y :: ys, .cons h l => by
    cases h
    rw [repL_ints l]
    rfl
theorem repL_bls : ∀ {vs : List V} {ys : List Bool}, RepL K r H vs (ys.map W.bl) → vs = ys.map V.bl
  | _, [], .nil => rfl
  | _, y :: ys, .cons h l => by
    cases h
    rw [repL_bls l]
    rfl
theorem repL_of_ints : ∀ (ys : List Int), RepL K r H (ys.map V.int) (ys.map W.int)
  | [] => .nil
  | y :: ys => .cons (.int y) (repL_of_ints ys)
theorem repL_of_strs : ∀ (ys : List Str), RepL K r H (ys.map V.str) (ys.map W.str)
  | [] => .nil
  | y :: ys => .cons (.str y) (repL_of_strs ys)
mutual
theorem dp_of : ∀ {v : V} {w : W}, Rep K r H v w → w.pure = true → Dp K H v (datW w)
  | _, _, .non, _ => .non
  | _, _, .bl b, _ => .bl b
  | _, _, .int i, _ => .int i
  | _, _, .str x, _ => .str x
  | _, _, .tup h l, b => .tup h (dpL_of l b)
  | _, _, .lit h l, b => .lst h.1 (dpL_of l b)
  | _, _, .ref h, b => Bool.noConfusion (show false = true from b)
  | _, _, .raw v, b => Bool.noConfusion (show false = true from b)
theorem dpL_of : ∀ {vs : List V} {ws : List W}, RepL K r H vs ws → W.pureL ws = true → DpAll K H vs (datWs ws)
  | _, _, .nil, _ => .nil
  | _, _, .cons h l, b => by
    have b' : (W.pure _ && W.pureL _) = true := b
    rw [Bool.and_eq_true] at b'
    exact .cons (dp_of h b'.1) (dpL_of l b'.2)
end
theorem dataS_sim {v : V} {w : W} {d : PyData} (R : RelS K r H S) (p : Rep K r H v w) (h : dataS S w = some d) : Dp K H v d := by
  cases p with
  | @ref a i q =>
    obtain ⟨o, ho, x⟩ := relO_there R q
    have e : dataS S (.ref i) = some d := h
    simp only [dataS, ho] at e
    cases o with
    | lst us =>
      simp only at e
      split at e
      · rename_i hp
        cases Option.some.inj e
        obtain ⟨xs, h1, l⟩ := x
        exact .lst (.of h1) (dpL_of l hp)
      · cases e
    | dk us => cases e
  | non => cases Option.some.inj h; exact .non
  | bl b => cases Option.some.inj h; exact .bl b
  | int b => cases Option.some.inj h; exact .int b
  | str b => cases Option.some.inj h; exact .str b
  | @tup a xs ws q l =>
    have e : (if (W.tup ws).pure = true then some (datW (.tup ws)) else none) = some d := h
    split at e
    · rename_i hp
      cases Option.some.inj e
      exact dp_of (.tup q l) hp
    · cases e
  | @lit a xs ws q l =>
    have e : (if (W.lit ws).pure = true then some (datW (.lit ws)) else none) = some d := h
    split at e
    · rename_i hp
      cases Option.some.inj e
      exact dp_of (.lit q l) hp
    · cases e
  | raw v => cases h
theorem flat_sim {v : V} {w : W} (p : Rep K r H v w) (h : flW w = true) : flatV v = true := by
  cases p <;> first | rfl | exact Bool.noConfusion (show false = true from h)
theorem eqW_sim {v u : V} {w z : W} (p : Rep K r H v w) (q : Rep K r H u z) (h : flW w = true) (h' : flW z = true) : eqV v u = eqW w z := by
  cases p <;> first
    | (cases q <;> first | rfl | exact Bool.noConfusion (show false = true from h'))
    | exact Bool.noConfusion (show false = true from h)
theorem flat_all {vs : List V} {ws : List W} (l : RepL K r H vs ws) (h : ws.all flW = true) : vs.all flatV = true := by
  induction vs generalizing ws with
  | nil => rfl
  | cons v vs ih =>
    cases l with
    | cons p l =>
      rw [List.all_cons, Bool.and_eq_true] at h ⊢
      exact ⟨flat_sim p h.1, ih l h.2⟩
theorem inW_sim {v : V} {w : W} {vs : List V} {ws : List W} (p : Rep K r H v w) (l : RepL K r H vs ws) (h : flW w = true) (hs : ws.all flW = true) : inV v vs = inW w ws := by
  induction vs generalizing ws with
  | nil => cases l; rfl
  | cons u vs ih =>
    cases l with
    | cons q l =>
      rw [List.all_cons, Bool.and_eq_true] at hs
      show (eqV u v || inV v vs) = (eqW _ w || inW w _)
      rw [eqW_sim q p hs.1 h, ih l hs.2]
theorem atI_sim {vs : List V} {ws : List W} {i : Int} {w : W} (l : RepL K r H vs ws) (h : atI ws i = some w) : ∃ v, atI vs i = some v ∧ Rep K r H v w := by
  have hl := l.length
  unfold atI at h ⊢
  rw [hl]
  cases hj : ixN ws.length i with
  | none =>
    rw [hj] at h
    cases h
  | some j =>
    rw [hj] at h
    exact l.get h
def cutW (ws : List W) (lo hi : Option Int) : List W := (ws.drop (HT.sIx ws.length 0 lo)).take (HT.sIx ws.length ws.length hi - HT.sIx ws.length 0 lo)
theorem cut_sim {vs : List V} {ws : List W} (l : RepL K r H vs ws) (lo hi : Option Int) : RepL K r H (cutV vs lo hi) (cutW ws lo hi) := by
  unfold cutV cutW
  rw [l.length]
  exact (l.drop _).take _
end
theorem cutW_whole {ws : List W} {lo hi : Option Int} (h : HT.sIx ws.length 0 lo = 0 ∧ HT.sIx ws.length ws.length hi = ws.length) : cutW ws lo hi = ws := by
  unfold cutW
  rw [h.1, h.2]
  simp

/-! ### operators -/
section
variable {X : Cx}
def vAdd (x y : W) (S : Sto) (Q : WK) : Prop := match x, y with
  | .int i, .int j => Q (.int (i + j)) S
  | .str a, .str b => a.length + b.length ≤ sizeLine ∧ Q (.str (a ++ b)) S
  | .tup a, .tup b => a.length + b.length ≤ sizeLine ∧ Q (.tup (a ++ b)) S
  | .ref i, .ref j => ∃ a b, S[i]? = some (.lst a) ∧ S[j]? = some (.lst b) ∧ a.length + b.length ≤ sizeLine ∧ Q (.ref S.length) (S ++ [.lst (a ++ b)])
  | _, _ => False
def rAddAll (K : Fg) : R2 := fun x y H Q => (∃ i j, x = .int i ∧ y = .int j ∧ Q (.int (i + j)) H) ∨ ((∃ i j, x = .str i ∧ y = .str j ∧ i.length + j.length ≤ sizeLine ∧ Q (.str (i ++ j)) H) ∨ (rCatA K x y H Q ∨ rCat x y H Q))
theorem op_addAll : OpR X (binaryOp .Add) (rAddAll X.K) := OpR.or op_add (OpR.or op_add_str (OpR.or op_catA op_cat))
theorem add_sim {K : Fg} : SimR K (rAddAll K) vAdd := by
  intro r H S x y wx wy Q Q0 R px py d k
  cases px <;> cases py <;> try exact d.elim
  · exact .inl ⟨_, _, rfl, rfl, k r H S _ _ .refl R (.int _) d⟩
  · exact .inr (.inl ⟨_, _, rfl, rfl, d.1, k r H S _ _ .refl R (.str _) d.2⟩)
  · rename_i a xs ws h l b ys zs h2 l2
    have e1 := l.length
    have e2 := l2.length
    refine .inr (.inr (.inl ⟨_, _, xs, ys, rfl, rfl, h, h2, by rw [e1, e2]; exact d.1, fun e => ?_, fun e e' => ?_, fun e e' p hp => ?_⟩))
    · subst e
      cases l
      exact k r H S _ _ .refl R (.tup h2 l2) d.2
    · subst e'
      cases l2
      have d2 := d.2
      rw [List.append_nil] at d2
      exact k r H S _ _ .refl R (.tup h l) d2
    · exact k r _ S _ _ (ext_new hp) (rel_new R hp) (rep_tup hp (l.app l2)) d.2
  · rename_i a i h b j h2
    obtain ⟨as, bs, ha, hb, hz, q⟩ := d
    obtain ⟨xs, h1, l1⟩ := R.obj i _ _ h ha
    obtain ⟨ys, h3, l3⟩ := R.obj j _ _ h2 hb
    refine .inr (.inr (.inr ⟨_, _, xs, ys, rfl, rfl, h1, h3, by rw [l1.length, l3.length]; exact hz, fun p hp => ?_⟩))
    exact k _ _ _ _ _ (ext_mem hp) (new_lst R hp (l1.app l3)) (rep_mem R) q
/-- ints in, an int out -/
def vI2 (C : Int → Int → Prop) (g : Int → Int → W) (x y : W) (S : Sto) (Q : WK) : Prop := match x, y with
  | .int i, .int j => C i j ∧ Q (g i j) S
  | _, _ => False
theorem i2_sim {K : Fg} {C : Int → Int → Prop} {g : Int → Int → V} {g' : Int → Int → W} (h : ∀ r H i j, Rep K r H (g i j) (g' i j)) : SimR K (rI C g) (vI2 C g') := by
  intro r H S x y wx wy Q Q0 R px py d k
  cases px <;> cases py <;> try exact d.elim
  exact ⟨_, _, rfl, rfl, d.1, k r H S _ _ .refl R (h _ _ _ _) d.2⟩
def vI20 (g : Int → Int → W) (x y : W) (S : Sto) (Q : WK) : Prop := match x, y with
  | .int i, .int j => Q (g i j) S
  | _, _ => False
theorem i20_sim {K : Fg} {g : Int → Int → V} {g' : Int → Int → W} (h : ∀ r H i j, Rep K r H (g i j) (g' i j)) : SimR K (rI0 g) (vI20 g') := by
  intro r H S x y wx wy Q Q0 R px py d k
  cases px <;> cases py <;> try exact d.elim
  exact ⟨_, _, rfl, rfl, k r H S _ _ .refl R (h _ _ _ _) d⟩
abbrev vSub := vI20 fun i j => .int (i - j)
abbrev vMul := vI2 (fun i j => CMul i j ∨ CMulW i j) fun i j => .int (i * j)
abbrev vDiv := vI2 CDivW fun i j => .int (i / j)
abbrev vMod := vI2 (fun _ j => 0 < j) fun i j => .int (i % j)
abbrev vPow := vI2 CPow fun i j => .int (i ^ j.toNat)
theorem op_mulA : OpR X (binaryOp .Mult) (rI (fun i j => CMul i j ∨ CMulW i j) fun i j => .int (i * j)) := by
  intro pins s σ H x y v u Q I rx ry h
  obtain ⟨i, j, rfl, rfl, hc, q⟩ := h
  rcases hc with hc | hc
  · exact op_mul pins s σ H _ _ v u Q I rx ry ⟨i, j, rfl, rfl, hc, q⟩
  · exact op_mulW pins s σ H _ _ v u Q I rx ry ⟨i, j, rfl, rfl, hc, q⟩
variable {a b e o : Expr} {es : List Expr} {da db de d0 : DE} {dA : DA} {pos : Pos}
theorem x_add (ha : XE X a da) (hb : XE X b db) : XE X (.BinOp a .Add b pos) (dOp vAdd da db) := xe_op op_addAll add_sim ha hb
theorem x_sub (ha : XE X a da) (hb : XE X b db) : XE X (.BinOp a .Sub b pos) (dOp vSub da db) := xe_op op_sub (i20_sim fun _ _ _ _ => .int _) ha hb
theorem x_mul (ha : XE X a da) (hb : XE X b db) : XE X (.BinOp a .Mult b pos) (dOp vMul da db) := xe_op op_mulA (i2_sim fun _ _ _ _ => .int _) ha hb
theorem x_div (ha : XE X a da) (hb : XE X b db) : XE X (.BinOp a .FloorDiv b pos) (dOp vDiv da db) := xe_op op_fdivW (i2_sim fun _ _ _ _ => .int _) ha hb
theorem x_mod (ha : XE X a da) (hb : XE X b db) : XE X (.BinOp a .Mod b pos) (dOp vMod da db) := xe_op op_mod (i2_sim fun _ _ _ _ => .int _) ha hb
theorem x_pow (ha : XE X a da) (hb : XE X b db) : XE X (.BinOp a .Pow b pos) (dOp vPow da db) := xe_op op_pow (i2_sim fun _ _ _ _ => .int _) ha hb
def vNeg (x : W) (S : Sto) (Q : WK) : Prop := match x with
  | .int i => Q (.int (-i)) S
  | _ => False
theorem neg_sim {K : Fg} : SimU K (rU fun i => .int (-i)) vNeg := by
  intro r H S x wx Q Q0 R px d k
  cases px <;> try exact d.elim
  exact ⟨_, rfl, k r H S _ _ .refl R (.int _) d⟩
theorem x_neg (ha : XE X a da) : XE X (.UnaryOp .USub a pos) (dUn vNeg da) := xe_un un_neg neg_sim ha
/-! ### == and its kin -/
def vEqG (neg : Bool) (x y : W) (S : Sto) (Q : WK) : Prop := match scW x y with
  | some b => Q (.bl (neg ^^ b)) S
  | none => ∃ d e, dataS S x = some d ∧ dataS S y = some e ∧ SeqAt.shaped d = true ∧ SeqAt.shaped e = true ∧ Q (.bl (neg ^^ PyData.eqv d e)) S
abbrev vEq := vEqG false
abbrev vNe := vEqG true
def rEqG (K : Fg) (neg : Bool) : R2 := fun x y H Q => (scal x y = true ∧ Q (.bl (neg ^^ decide (x = y))) H) ∨ ∃ d e, Dp K H x d ∧ Dp K H y e ∧ SeqAt.shaped d = true ∧ SeqAt.shaped e = true ∧ Q (.bl (neg ^^ PyData.eqv d e)) H
theorem op_eqG (hu : X.A.units + 64 < cLine) : OpR X (compareOp .Eq) (rEqG X.K false) := by
  have h := OpR.or (X := X) op_eq (op_eqD hu)
  intro pins s σ H x y v u Q I rx ry q
  refine h pins s σ H x y v u Q I rx ry ?_
  rcases q with q | ⟨d, e, q⟩
  · exact .inl ⟨q.1, by have z := q.2; rw [Bool.false_xor] at z; exact z⟩
  · exact .inr ⟨d, e, q.1, q.2.1, q.2.2.1, q.2.2.2.1, by have z := q.2.2.2.2; rw [Bool.false_xor] at z; exact z⟩
theorem op_neG (hu : X.A.units + 64 < cLine) : OpR X (compareOp .NotEq) (rEqG X.K true) := by
  have h := OpR.or (X := X) op_ne (op_neD hu)
  intro pins s σ H x y v u Q I rx ry q
  refine h pins s σ H x y v u Q I rx ry ?_
  rcases q with q | ⟨d, e, q⟩
  · exact .inl ⟨q.1, by have z := q.2; rw [Bool.true_xor] at z; exact z⟩
  · exact .inr ⟨d, e, q.1, q.2.1, q.2.2.1, q.2.2.2.1, by have z := q.2.2.2.2; rw [Bool.true_xor] at z; exact z⟩
theorem sc_sim {K : Fg} {r : List Addr} {H : Hp} {x y : V} {wx wy : W} {b : Bool} (px : Rep K r H x wx) (py : Rep K r H y wy) (h : scW wx wy = some b) : scal x y = true ∧ decide (x = y) = b := by
  cases px <;> cases py <;> first
    | (cases Option.some.inj h; exact ⟨rfl, rfl⟩)
    | (cases Option.some.inj h; exact ⟨rfl, by simp⟩)
    | cases h
theorem eqG_sim {K : Fg} {neg : Bool} : SimR K (rEqG K neg) (vEqG neg) := by
  intro r H S x y wx wy Q Q0 R px py d k
  unfold vEqG at d
  split at d
  · rename_i b hb
    obtain ⟨h1, h2⟩ := sc_sim px py hb
    exact .inl ⟨h1, by rw [h2]; exact k r H S _ _ .refl R (.bl _) d⟩
  · obtain ⟨d1, d2, h1, h2, s1, s2, q⟩ := d
    exact .inr ⟨d1, d2, dataS_sim R px h1, dataS_sim R py h2, s1, s2, k r H S _ _ .refl R (.bl _) q⟩
theorem x_eq (hu : X.A.units + 64 < cLine) (ha : XE X a da) (hb : XE X b db) : XE X (.Compare a [.Eq] [b] pos) (dOp vEq da db) := xe_cmp (op_eqG hu) eqG_sim ha hb
theorem x_ne (hu : X.A.units + 64 < cLine) (ha : XE X a da) (hb : XE X b db) : XE X (.Compare a [.NotEq] [b] pos) (dOp vNe da db) := xe_cmp (op_neG hu) eqG_sim ha hb
theorem t_eq (hu : X.A.units + 64 < cLine) (ha : XE X a da) (hb : XE X b db) : XT X (.Compare a [.Eq] [b] pos) (dB (dOp vEq da db)) := xt_cmp (op_eqG hu) eqG_sim ha hb
theorem t_ne (hu : X.A.units + 64 < cLine) (ha : XE X a da) (hb : XE X b db) : XT X (.Compare a [.NotEq] [b] pos) (dB (dOp vNe da db)) := xt_cmp (op_neG hu) eqG_sim ha hb
/-! ### order: ints, texts -/
def vCmp (g : Int → Int → Bool) (g' : Str → Str → Bool) (x y : W) (S : Sto) (Q : WK) : Prop := match x, y with
  | .int i, .int j => Q (.bl (g i j)) S
  | .str i, .str j => Q (.bl (g' i j)) S
  | _, _ => False
theorem cmp_sim {K : Fg} {g : Int → Int → Bool} {g' : Str → Str → Bool} : SimR K (fun x y H Q => rI0 (fun i j => .bl (g i j)) x y H Q ∨ ∃ i j, x = .str i ∧ y = .str j ∧ Q (.bl (g' i j)) H) (vCmp g g') := by
  intro r H S x y wx wy Q Q0 R px py d k
  cases px <;> cases py <;> try exact d.elim
  · exact .inl ⟨_, _, rfl, rfl, k r H S _ _ .refl R (.bl _) d⟩
  · exact .inr ⟨_, _, rfl, rfl, k r H S _ _ .refl R (.bl _) d⟩
abbrev vLt := vCmp (fun i j => decide (i < j)) fun i j => decide (i.cps.toList < j.cps.toList)
abbrev vLe := vCmp (fun i j => decide (i ≤ j)) fun i j => !decide (j.cps.toList < i.cps.toList)
abbrev vGt := vCmp (fun i j => decide (j < i)) fun i j => decide (j.cps.toList < i.cps.toList)
abbrev vGe := vCmp (fun i j => decide (j ≤ i)) fun i j => !decide (i.cps.toList < j.cps.toList)
theorem x_lt (ha : XE X a da) (hb : XE X b db) : XE X (.Compare a [.Lt] [b] pos) (dOp vLt da db) := xe_cmp (OpR.or op_lt op_lt_str) cmp_sim ha hb
theorem x_le (ha : XE X a da) (hb : XE X b db) : XE X (.Compare a [.LtE] [b] pos) (dOp vLe da db) := xe_cmp (OpR.or op_le op_le_str) cmp_sim ha hb
theorem x_gt (ha : XE X a da) (hb : XE X b db) : XE X (.Compare a [.Gt] [b] pos) (dOp vGt da db) := xe_cmp (OpR.or op_gt op_gt_str) cmp_sim ha hb
theorem x_ge (ha : XE X a da) (hb : XE X b db) : XE X (.Compare a [.GtE] [b] pos) (dOp vGe da db) := xe_cmp (OpR.or op_ge op_ge_str) cmp_sim ha hb
theorem t_lt (ha : XE X a da) (hb : XE X b db) : XT X (.Compare a [.Lt] [b] pos) (dB (dOp vLt da db)) := xt_cmp (OpR.or op_lt op_lt_str) cmp_sim ha hb
theorem t_le (ha : XE X a da) (hb : XE X b db) : XT X (.Compare a [.LtE] [b] pos) (dB (dOp vLe da db)) := xt_cmp (OpR.or op_le op_le_str) cmp_sim ha hb
theorem t_gt (ha : XE X a da) (hb : XE X b db) : XT X (.Compare a [.Gt] [b] pos) (dB (dOp vGt da db)) := xt_cmp (OpR.or op_gt op_gt_str) cmp_sim ha hb
theorem t_ge (ha : XE X a da) (hb : XE X b db) : XT X (.Compare a [.GtE] [b] pos) (dB (dOp vGe da db)) := xt_cmp (OpR.or op_ge op_ge_str) cmp_sim ha hb
/-! ### is None, in -/
def vIs (neg : Bool) (x y : W) (S : Sto) (Q : WK) : Prop := match x, y with
  | .raw _, _ => False
  | .non, .non => Q (.bl (!neg)) S
  | _, .non => Q (.bl neg) S
  | _, _ => False
theorem is_sim {K : Fg} : SimR K (fun x y H Q => y = .non ∧ Q (.bl (decide (x = .non))) H) (vIs false) := by
  intro r H S x y wx wy Q Q0 R px py d k
  cases py <;> cases px <;> first
    | exact d.elim
    | exact ⟨rfl, k r H S _ _ .refl R (.bl _) d⟩
theorem isnot_sim {K : Fg} : SimR K (fun x y H Q => y = .non ∧ Q (.bl (!decide (x = .non))) H) (vIs true) := by
  intro r H S x y wx wy Q Q0 R px py d k
  cases py <;> cases px <;> first
    | exact d.elim
    | exact ⟨rfl, k r H S _ _ .refl R (.bl _) d⟩
theorem x_is (ha : XE X a da) (hb : XE X b db) : XE X (.Compare a [.Is] [b] pos) (dOp (vIs false) da db) := xe_cmp op_isN is_sim ha hb
theorem x_isnot (ha : XE X a da) (hb : XE X b db) : XE X (.Compare a [.IsNot] [b] pos) (dOp (vIs true) da db) := xe_cmp op_notN isnot_sim ha hb
theorem t_is (ha : XE X a da) (hb : XE X b db) : XT X (.Compare a [.Is] [b] pos) (dB (dOp (vIs false) da db)) := xt_cmp op_isN is_sim ha hb
theorem t_isnot (ha : XE X a da) (hb : XE X b db) : XT X (.Compare a [.IsNot] [b] pos) (dB (dOp (vIs true) da db)) := xt_cmp op_notN isnot_sim ha hb
def vIn (neg : Bool) (x y : W) (S : Sto) (Q : WK) : Prop := ∃ ws, seqOf S y = some ws ∧ flW x = true ∧ ws.all flW = true ∧ Q (.bl (neg ^^ inW x ws)) S
theorem in_sim {K : Fg} : SimR K (rIn K false) (vIn false) := by
  intro r H S x y wx wy Q Q0 R px py d k
  obtain ⟨ws, hs, f1, f2, q⟩ := d
  obtain ⟨p, xs, rfl, hq, l⟩ := seqOf_sim R py hs
  refine ⟨p, xs, rfl, hq, flat_sim px f1, flat_all l f2, ?_⟩
  rw [if_neg Bool.false_ne_true, inW_sim px l f1 f2]
  rw [Bool.false_xor] at q
  exact k r H S _ _ .refl R (.bl _) q
theorem notin_sim {K : Fg} : SimR K (rIn K true) (vIn true) := by
  intro r H S x y wx wy Q Q0 R px py d k
  obtain ⟨ws, hs, f1, f2, q⟩ := d
  obtain ⟨p, xs, rfl, hq, l⟩ := seqOf_sim R py hs
  refine ⟨p, xs, rfl, hq, flat_sim px f1, flat_all l f2, ?_⟩
  rw [if_pos rfl, inW_sim px l f1 f2]
  rw [Bool.true_xor] at q
  exact k r H S _ _ .refl R (.bl _) q
theorem x_in (ha : XE X a da) (hb : XE X b db) (hm : behindInMarks .In b = false := by rfl) : XE X (.Compare a [.In] [b] pos) (dOp (vIn false) da db) := xe_cmp op_in_seq in_sim ha hb hm
theorem x_notin (ha : XE X a da) (hb : XE X b db) (hm : behindInMarks .NotIn b = false := by rfl) : XE X (.Compare a [.NotIn] [b] pos) (dOp (vIn true) da db) := xe_cmp op_notIn_seq notin_sim ha hb hm
theorem t_in (ha : XE X a da) (hb : XE X b db) (hm : behindInMarks .In b = false := by rfl) : XT X (.Compare a [.In] [b] pos) (dB (dOp (vIn false) da db)) := xt_cmp op_in_seq in_sim ha hb hm
theorem t_notin (ha : XE X a da) (hb : XE X b db) (hm : behindInMarks .NotIn b = false := by rfl) : XT X (.Compare a [.NotIn] [b] pos) (dB (dOp (vIn true) da db)) := xt_cmp op_notIn_seq notin_sim ha hb hm
/-! ### subscripts -/
def vIx (x y : W) (S : Sto) (Q : WK) : Prop := match x, y with
  | .ref p, .int i => ∃ ws w, S[p]? = some (.lst ws) ∧ atI ws i = some w ∧ Q w S
  | .tup ws, .int i => ∃ w, atI ws i = some w ∧ Q w S
  | .lit ws, .int i => ∃ w, atI ws i = some w ∧ Q w S
  | .str z, .int i => ∃ c, z.length ≤ sizeLine ∧ atI z.cps.toList i = some c ∧ Q (.str ⟨#[c]⟩) S
  | _, _ => False
theorem ix_sim {K : Fg} : SimR K (rIx K) vIx := by
  intro r H S x y wx wy Q Q0 R px py d k
  cases px <;> cases py <;> try exact d.elim
  · obtain ⟨c, h1, h2, q⟩ := d
    exact .inr (.inr ⟨_, _, c, rfl, rfl, h1, h2, k r H S _ _ .refl R (.str _) q⟩)
  · rename_i a xs ws h l i
    obtain ⟨w, h1, q⟩ := d
    obtain ⟨v, hv, pv⟩ := atI_sim l h1
    exact .inr (.inl ⟨_, xs, i, v, rfl, rfl, h, hv, k r H S _ _ .refl R pv q⟩)
  · rename_i a xs ws h l i
    obtain ⟨w, h1, q⟩ := d
    obtain ⟨v, hv, pv⟩ := atI_sim l h1
    exact .inl ⟨_, xs, i, v, rfl, rfl, h.1, hv, k r H S _ _ .refl R pv q⟩
  · rename_i a j h i
    obtain ⟨ws, w, h0, h1, q⟩ := d
    obtain ⟨xs, h3, l⟩ := R.obj j _ _ h h0
    obtain ⟨v, hv, pv⟩ := atI_sim l h1
    exact .inl ⟨_, xs, i, v, rfl, rfl, .of h3, hv, k r H S _ _ .refl R pv q⟩
theorem x_ix (ha : XE X a da) (hb : XE X b db) (hs : PlainIx b := by exact fun _ _ => rfl) : XE X (.Subscript a b pos) (dOp vIx da db) := xe_ix ix_seq ix_sim ha hb hs
def vSl (x : W) (lo hi : Option Int) (S : Sto) (Q : WK) : Prop := match x with
  | .ref p => ∃ ws, S[p]? = some (.lst ws) ∧ Q (.ref S.length) (S ++ [.lst (cutW ws lo hi)])
  | .lit ws => Q (.ref S.length) (S ++ [.lst (cutW ws lo hi)])
  | .tup ws => Q (.tup (cutW ws lo hi)) S
  | .str z => z.length ≤ sizeLine ∧ Q (.str (cutS z lo hi)) S
  | _ => False
def rSlAll (K : Fg) : V → Option Int → Option Int → Hp → VK → Prop := fun x lo hi H Q => rSlL K x lo hi H Q ∨ (rSlA K x lo hi H Q ∨ rSlS x lo hi H Q)
theorem sl_all : SlR X (rSlAll X.K) := SlR.or sl_list (SlR.or sl_tupA sl_str)
theorem sl_sim {K : Fg} : SimSl K (rSlAll K) vSl := by
  intro r H S x wx lo hi Q Q0 R px d k
  cases px <;> try exact d.elim
  · exact .inr (.inr ⟨_, rfl, d.1, k r H S _ _ .refl R (.str _) d.2⟩)
  · rename_i a xs ws h l
    have e := l.length
    refine .inr (.inl ⟨a, xs, rfl, h, fun hw => ?_, fun hw p hp => ?_⟩)
    · rw [e] at hw
      have d' : Q (.tup (cutW ws lo hi)) S := d
      rw [cutW_whole hw] at d'
      exact k r H S _ _ .refl R (.tup h l) d'
    · exact k r _ S _ _ (ext_new hp) (rel_new R hp) (rep_tup hp (cut_sim l lo hi)) d
  · rename_i a xs ws h l
    exact .inl ⟨a, xs, rfl, h.1, fun p hp => k _ _ _ _ _ (ext_mem hp) (new_lst R hp (cut_sim l lo hi)) (rep_mem R) d⟩
  · rename_i a j h
    obtain ⟨ws, h0, q⟩ := d
    obtain ⟨xs, h3, l⟩ := R.obj j _ _ h h0
    exact .inl ⟨a, xs, rfl, .of h3, fun p hp => k _ _ _ _ _ (ext_mem hp) (new_lst R hp (cut_sim l lo hi)) (rep_mem R) q⟩
theorem x_slice {lo hi : Option Expr} {p2 : Pos} {dl dh : DO} (ha : XE X a da) (hl : XO X lo dl) (hu : XO X hi dh) : XE X (.Subscript a (.Slice lo hi none p2) pos) (dSl vSl da dl dh) := xe_slice sl_all sl_sim ha hl hu
def vSet (o i v : W) (S : Sto) (Q : Sto → Prop) : Prop := match o, i with
  | .ref p, .int k => ∃ ws j, S[p]? = some (.lst ws) ∧ ixN ws.length k = some j ∧ Q (S.set p (.lst (ws.set j v)))
  | _, _ => False
theorem set_sim {K : Fg} : SimSet K rSetL vSet := by
  intro r H S o i v wo wi w Q Q0 R po pi pv d k
  cases po <;> cases pi <;> try exact d.elim
  rename_i a j h n
  obtain ⟨ws, m, h0, h1, q⟩ := d
  obtain ⟨xs, h3, l⟩ := R.obj j _ _ h h0
  exact ⟨a, xs, n, m, rfl, rfl, h3, by rw [l.length]; exact h1, k r _ _ (ext_wr h h3 trivial) (wr_lst R h h3 (l.set pv m)) q⟩
theorem g_sub (ho : XE X a da) (hi : XE X b db) (ha : ∀ v, assign (.Subscript a b pos) X.env v = (do
      let ov ← holding [v] (eval a X.env)
      let iv ← holding [v, ov] (eval b X.env)
      standAt pos
      holding [v, ov, iv] (setItem ov iv v)
      release [v, ov, iv] []) := by intro _; rfl) : XG X (.Subscript a b pos) (gSb da db vSet) := xg_sub set_list set_sim ho hi ha
/-! ### built-ins -/
def vLen (xs : List W) (S : Sto) (Q : WK) : Prop := match xs with
  | [.str z] => z.length ≤ sizeLine ∧ Q (.int z.length) S
  | [w] => ∃ ws, seqOf S w = some ws ∧ Q (.int ws.length) S
  | _ => False
theorem len_sim {K : Fg} : SimC K (fun xs H Q => ∃ x n, xs = [x] ∧ LenV K x H n ∧ Q (.int n) H) vLen := by
  intro r H S xs ws Q Q0 R l d k
  cases l with
  | nil => exact d.elim
  | cons p l =>
    cases l with
    | cons p' l' => cases p <;> exact d.elim
    | nil =>
      have go : ∀ {v : V} {w : W}, Rep K r H v w → (∃ us, seqOf S w = some us ∧ Q (.int us.length) S) → ∃ x n, [v] = [x] ∧ LenV K x H n ∧ Q0 (.int n) H := fun {v w} p h => by
        obtain ⟨us, hs, q⟩ := h
        obtain ⟨a, xs, rfl, hq, l⟩ := seqOf_sim R p hs
        refine ⟨.ref a, xs.length, rfl, ?_, by rw [l.length]; exact k r H S _ _ .refl R (.int _) q⟩
        rcases hq with hq | hq
        · exact .inl ⟨xs, hq, rfl⟩
        · exact .inr ⟨xs, hq, rfl⟩
      have hp := p
      cases p with
      | str z => exact ⟨_, _, rfl, ⟨d.1, rfl⟩, k r H S _ _ .refl R (.int _) d.2⟩
      | _ => exact go hp d
variable {x : Str} {p : Pos}
theorem c_len (hg : Gl X "len") (hm : X.mg "len" = none) (ha : XA X (e :: es) dA) (he : starEach (e :: es) X.env = (false, eval e X.env) :: starEach es X.env := by rfl) (hpl : (backTo pos (starEach es X.env)).any (·.1) = false := by rfl) : XE X (.Call (.Name "len" p) (e :: es) [] pos) (dCB vLen dA) :=
  xe_callB call_len len_sim hg hm PySem.boot_len ha (by decide) (by decide) he hpl
def vI1 (g : Int → W) (xs : List W) (S : Sto) (Q : WK) : Prop := match xs with
  | [.int i] => Q (g i) S
  | _ => False
theorem abs_sim {K : Fg} : SimC K (fun xs H Q => ∃ i, xs = [.int i] ∧ Q (.int (if i < 0 then -i else i)) H) (vI1 fun i => .int (if i < 0 then -i else i)) := by
  intro r H S xs ws Q Q0 R l d k
  cases l with
  | nil => exact d.elim
  | cons p l =>
    cases l with
    | cons p' l' => cases p <;> exact d.elim
    | nil => cases p <;> first | exact d.elim | exact ⟨_, rfl, k r H S _ _ .refl R (.int _) d⟩
theorem c_abs (hg : Gl X "abs") (hm : X.mg "abs" = none) (ha : XA X (e :: es) dA) (he : starEach (e :: es) X.env = (false, eval e X.env) :: starEach es X.env := by rfl) (hpl : (backTo pos (starEach es X.env)).any (·.1) = false := by rfl) : XE X (.Call (.Name "abs" p) (e :: es) [] pos) (dCB (vI1 fun i => .int (if i < 0 then -i else i)) dA) :=
  xe_callB call_abs abs_sim hg hm (by decide +kernel) ha (by decide) (by decide) he hpl
def vIntOf (xs : List W) (S : Sto) (Q : WK) : Prop := match xs with
  | [.int i] => Q (.int i) S
  | [.bl b] => Q (.int (if b then 1 else 0)) S
  | [.str a] => ∃ n, PySem.intText? a = some n ∧ a.length ≤ 640 ∧ Q (.int n) S
  | _ => False
theorem int_sim {K : Fg} : SimC K (fun xs H Q => ((∃ i, xs = [.int i] ∧ Q (.int i) H) ∨ ∃ k, xs = [.bl k] ∧ Q (.int (if k then 1 else 0)) H) ∨ ∃ a n, xs = [.str a] ∧ PySem.intText? a = some n ∧ a.length ≤ 640 ∧ Q (.int n) H) vIntOf := by
  intro r H S xs ws Q Q0 R l d k
  cases l with
  | nil => exact d.elim
  | cons p l =>
    cases l with
    | cons p' l' => cases p <;> exact d.elim
    | nil =>
      cases p <;> try exact d.elim
      · exact .inl (.inr ⟨_, rfl, k r H S _ _ .refl R (.int _) d⟩)
      · exact .inl (.inl ⟨_, rfl, k r H S _ _ .refl R (.int _) d⟩)
      · obtain ⟨n, h1, h2, q⟩ := d
        exact .inr ⟨_, n, rfl, h1, h2, k r H S _ _ .refl R (.int _) q⟩
theorem c_int (hg : Gl X "int") (hm : X.mg "int" = none) (ha : XA X (e :: es) dA) (he : starEach (e :: es) X.env = (false, eval e X.env) :: starEach es X.env := by rfl) (hpl : (backTo pos (starEach es X.env)).any (·.1) = false := by rfl) : XE X (.Call (.Name "int" p) (e :: es) [] pos) (dCB vIntOf dA) :=
  xe_callTy (CallR.or call_int1 call_int_str) int_sim hg hm (by decide +kernel) ha (by decide) (by decide) he hpl
def vStrOf (xs : List W) (S : Sto) (Q : WK) : Prop := match xs with
  | [.int i] => i.natAbs.log2 < 1920 ∧ Q (.str (toString i)) S
  | [.str a] => Q (.str a) S
  | _ => False
theorem str_sim {K : Fg} : SimC K (fun xs H Q => (∃ i, xs = [.int i] ∧ i.natAbs.log2 < 1920 ∧ Q (.str (toString i)) H) ∨ ∃ a, xs = [.str a] ∧ Q (.str a) H) vStrOf := by
  intro r H S xs ws Q Q0 R l d k
  cases l with
  | nil => exact d.elim
  | cons p l =>
    cases l with
    | cons p' l' => cases p <;> exact d.elim
    | nil =>
      cases p <;> try exact d.elim
      · exact .inl ⟨_, rfl, d.1, k r H S _ _ .refl R (.str _) d.2⟩
      · exact .inr ⟨_, rfl, k r H S _ _ .refl R (.str _) d⟩
theorem c_str (hg : Gl X "str") (hm : X.mg "str" = none) (ha : XA X (e :: es) dA) (he : starEach (e :: es) X.env = (false, eval e X.env) :: starEach es X.env := by rfl) (hpl : (backTo pos (starEach es X.env)).any (·.1) = false := by rfl) : XE X (.Call (.Name "str" p) (e :: es) [] pos) (dCB vStrOf dA) :=
  xe_callTy (CallR.or call_str_int SkE.call_str_str) str_sim hg hm (by decide +kernel) ha (by decide) (by decide) he hpl
def vList (xs : List W) (S : Sto) (Q : WK) : Prop := match xs with
  | [w] => ∃ ws, seqOf S w = some ws ∧ Q (.ref S.length) (S ++ [.lst ws])
  | _ => False
theorem list_sim {K : Fg} : SimC K (fun xs H Q => ∃ p ys, xs = [.ref p] ∧ (SqL K H p ys ∨ SqT K H p ys) ∧ ∀ l, H l = none → Q (.ref l) (upd H l (.lst ys))) vList := by
  intro r H S xs ws Q Q0 R l d k
  cases l with
  | nil => exact d.elim
  | cons p l =>
    cases l with
    | cons p' l' => exact d.elim
    | nil =>
      obtain ⟨us, hs, q⟩ := d
      obtain ⟨a, xs, rfl, hq, l⟩ := seqOf_sim R p hs
      exact ⟨a, xs, rfl, hq, fun p hp => k _ _ _ _ _ (ext_mem hp) (new_lst R hp l) (rep_mem R) q⟩
theorem c_list (hg : Gl X "list") (hm : X.mg "list" = none) (ha : XA X (e :: es) dA) (he : starEach (e :: es) X.env = (false, eval e X.env) :: starEach es X.env := by rfl) (hpl : (backTo pos (starEach es X.env)).any (·.1) = false := by rfl) : XE X (.Call (.Name "list" p) (e :: es) [] pos) (dCB vList dA) :=
  xe_callTy call_list_of list_sim hg hm (by decide +kernel) ha (by decide) (by decide) he hpl
def vTuple (xs : List W) (S : Sto) (Q : WK) : Prop := match xs with
  | [w] => ∃ ws, seqOf S w = some ws ∧ Q (.tup ws) S
  | _ => False
theorem tuple_sim {K : Fg} : SimC K (fun xs H Q => ∃ p ys, xs = [.ref p] ∧ ((SqL K H p ys ∧ ∀ l, H l = none → Q (.ref l) (upd H l (.tup ys))) ∨ (SqT K H p ys ∧ Q (.ref p) H))) vTuple := by
  intro r H S xs ws Q Q0 R l d k
  cases l with
  | nil => exact d.elim
  | cons p l =>
    cases l with
    | cons p' l' => exact d.elim
    | nil =>
      obtain ⟨us, hs, q⟩ := d
      obtain ⟨a, xs, rfl, hq, l⟩ := seqOf_sim R p hs
      refine ⟨a, xs, rfl, ?_⟩
      rcases hq with hq | hq
      · exact .inl ⟨hq, fun p hp => k r _ S _ _ (ext_new hp) (rel_new R hp) (rep_tup hp l) q⟩
      · exact .inr ⟨hq, k r H S _ _ .refl R (.tup hq l) q⟩
theorem c_tuple (hg : Gl X "tuple") (hm : X.mg "tuple" = none) (ha : XA X (e :: es) dA) (he : starEach (e :: es) X.env = (false, eval e X.env) :: starEach es X.env := by rfl) (hpl : (backTo pos (starEach es X.env)).any (·.1) = false := by rfl) : XE X (.Call (.Name "tuple" p) (e :: es) [] pos) (dCB vTuple dA) :=
  xe_callTy call_tuple_of tuple_sim hg hm (by decide +kernel) ha (by decide) (by decide) he hpl
/-- isinstance -/
def tyW (S : Sto) : W → Option String
  | .non => some "NoneType" | .bl _ => some "bool" | .int _ => some "int" | .str _ => some "str" | .tup _ => some "tuple" | .lit _ => some "list"
  | .ref i => match S[i]? with
    | some (.lst _) => some "list"
    | some (.dk _) => some "dict"
    | none => none
  | .raw _ => none
def vIsi (xs : List W) (S : Sto) (Q : WK) : Prop := match xs with
  | [w, .raw (.ty n)] => ∃ t b, tyW S w = some t ∧ kitB t n = some b ∧ Q (.bl b) S
  | _ => False
theorem sqL_ty {K : Fg} {H : Hp} {a : Addr} {xs : List V} (h : SqL K H a xs) : TyX K H (.ref a) (.type "list") := by
  rcases h with (h | ⟨o, h⟩) | ⟨o, its, n, h, hc, _⟩
  · exact .base (.lst h)
  · exact .base (.frz h)
  · exact .kList h hc
theorem sqT_ty {K : Fg} {H : Hp} {a : Addr} {xs : List V} (h : SqT K H a xs) : TyX K H (.ref a) (.type "tuple") := by
  rcases h with (h | ⟨o, h⟩) | ⟨o, its, n, h, hc, _⟩
  · exact .base (.tup h)
  · exact .fTuple h
  · exact .kTuple h hc
theorem tyW_sim {K : Fg} {r : List Addr} {H : Hp} {S : Sto} {v : V} {w : W} {t : String} (R : RelS K r H S) (p : Rep K r H v w) (h : tyW S w = some t) : TyX K H v (.type t) := by
  cases p with
  | non => cases Option.some.inj h; exact .base .non
  | bl b => cases Option.some.inj h; exact .base (.bl b)
  | int b => cases Option.some.inj h; exact .base (.int b)
  | str b => cases Option.some.inj h; exact .base (.str b)
  | tup q l => cases Option.some.inj h; exact sqT_ty q
  | lit q l => cases Option.some.inj h; exact sqL_ty q.1
  | @ref a i q =>
    obtain ⟨o, ho, x⟩ := relO_there R q
    have e : tyW S (.ref i) = some t := h
    simp only [tyW, ho] at e
    cases o with
    | lst us =>
      cases Option.some.inj e
      obtain ⟨xs, h1, l⟩ := x
      exact .base (.lst h1)
    | dk us =>
      cases Option.some.inj e
      obtain ⟨xs, h1, l⟩ := x
      exact .base (.dK h1)
  | raw v => cases h
theorem rep_ty {K : Fg} {r : List Addr} {H : Hp} {v u : V} (p : Rep K r H v (.raw u)) : v = u := by cases p; rfl
theorem isi_sim {K : Fg} : SimC K (rIsi K) vIsi := by
  intro r H S xs ws Q Q0 R l d k
  cases l with
  | nil => exact d.elim
  | @cons v vs w ws p l =>
    cases l with
    | nil => exact d.elim
    | @cons u us z zs p' l' =>
      cases l' with
      | cons p2 l2 =>
        unfold vIsi at d
        split at d
        · rename_i heq
          cases heq
        · exact d.elim
      | nil =>
        unfold vIsi at d
        split at d
        · rename_i w' n heq
          injection heq with e1 e2
          injection e2 with e2 _
          subst e1
          subst e2
          obtain ⟨t, b, h1, h2, q⟩ := d
          have e3 := rep_ty p'
          subst e3
          exact ⟨v, .ty n, .type t, .type n, b, rfl, .ty n, tyW_sim R p h1, kit_ty h2, k r H S _ _ .refl R (.bl b) q⟩
        · exact d.elim
theorem c_isi (hg : Gl X "isinstance") (hm : X.mg "isinstance" = none) (ha : XA X (e :: es) dA) (he : starEach (e :: es) X.env = (false, eval e X.env) :: starEach es X.env := by rfl) (hpl : (backTo pos (starEach es X.env)).any (·.1) = false := by rfl) : XE X (.Call (.Name "isinstance" p) (e :: es) [] pos) (dCB vIsi dA) :=
  xe_callB call_isi isi_sim hg hm (by decide +kernel) ha (by decide) (by decide) he hpl
/-- any, all of a list of bools; sum of ints -/
def vAny (f : List Bool → Bool) (xs : List W) (S : Sto) (Q : WK) : Prop := match xs with
  | [.ref i] => ∃ bs : List Bool, S[i]? = some (.lst (bs.map W.bl)) ∧ Q (.bl (f bs)) S
  | _ => False
theorem any_sim {K : Fg} {f : List Bool → Bool} : SimC K (fun vs H Q => ∃ (a : Addr) (bs : List Bool), vs = [V.ref a] ∧ SqL K H a (bs.map V.bl) ∧ Q (.bl (f bs)) H) (vAny f) := by
  intro r H S xs ws Q Q0 R l d k
  cases l with
  | nil => exact d.elim
  | cons p l =>
    cases l with
    | cons p' l' => cases p <;> exact d.elim
    | nil =>
      cases p <;> try exact d.elim
      rename_i a i h
      obtain ⟨bs, h0, q⟩ := d
      obtain ⟨xs, h3, l⟩ := R.obj i _ _ h h0
      have e := repL_bls l
      subst e
      exact ⟨a, bs, rfl, .of h3, k r H S _ _ .refl R (.bl _) q⟩
theorem c_any (hc : X.calm = true) (hg : Gl X "any") (hm : X.mg "any" = none) (ha : XA X (e :: es) dA) (he : starEach (e :: es) X.env = (false, eval e X.env) :: starEach es X.env := by rfl) (hpl : (backTo pos (starEach es X.env)).any (·.1) = false := by rfl) : XE X (.Call (.Name "any" p) (e :: es) [] pos) (dCB (vAny fun bs => bs.any id) dA) :=
  xe_callB (cr_any hc) any_sim hg hm (by decide +kernel) ha (by decide) (by decide) he hpl
theorem c_all (hc : X.calm = true) (hg : Gl X "all") (hm : X.mg "all" = none) (ha : XA X (e :: es) dA) (he : starEach (e :: es) X.env = (false, eval e X.env) :: starEach es X.env := by rfl) (hpl : (backTo pos (starEach es X.env)).any (·.1) = false := by rfl) : XE X (.Call (.Name "all" p) (e :: es) [] pos) (dCB (vAny fun bs => bs.all id) dA) :=
  xe_callB (cr_all hc) any_sim hg hm (by decide +kernel) ha (by decide) (by decide) he hpl
def vSum (xs : List W) (S : Sto) (Q : WK) : Prop := match xs with
  | [.ref i] => ∃ bs : List Int, S[i]? = some (.lst (bs.map W.int)) ∧ Q (.int bs.sum) S
  | _ => False
theorem sum_sim {K : Fg} : SimC K (rSum K) vSum := by
  intro r H S xs ws Q Q0 R l d k
  cases l with
  | nil => exact d.elim
  | cons p l =>
    cases l with
    | cons p' l' => cases p <;> exact d.elim
    | nil =>
      cases p <;> try exact d.elim
      rename_i a i h
      obtain ⟨bs, h0, q⟩ := d
      obtain ⟨xs, h3, l⟩ := R.obj i _ _ h h0
      have e := repL_ints l
      subst e
      exact ⟨a, bs, rfl, .of h3, k r H S _ _ .refl R (.int _) q⟩
theorem c_sum (hc : X.calm = true) (hg : Gl X "sum") (hm : X.mg "sum" = none) (ha : XA X (e :: es) dA) (he : starEach (e :: es) X.env = (false, eval e X.env) :: starEach es X.env := by rfl) (hpl : (backTo pos (starEach es X.env)).any (·.1) = false := by rfl) : XE X (.Call (.Name "sum" p) (e :: es) [] pos) (dCB vSum dA) :=
  xe_callB (cr_sum hc) sum_sim hg hm (by decide +kernel) ha (by decide) (by decide) he hpl
/-! ### methods -/
variable {apos cpos : Pos}
def vAppend (x : W) (ws : List W) (S : Sto) (Q : WK) : Prop := match x, ws with
  | .ref i, [y] => ∃ zs, S[i]? = some (.lst zs) ∧ zs.length < sizeLine ∧ Q .non (S.set i (.lst (zs ++ [y])))
  | _, _ => False
theorem append_sim {K : Fg} : SimM K rAppend vAppend := by
  intro r H S x xs wx ws Q Q0 R px l d k
  cases px <;> try (cases l <;> exact d.elim)
  rename_i a i h
  cases l with
  | nil => exact d.elim
  | cons p l =>
    cases l with
    | cons p' l' => exact d.elim
    | nil =>
      obtain ⟨zs, h0, hz, q⟩ := d
      obtain ⟨xs, h3, l⟩ := R.obj i _ _ h h0
      exact ⟨a, xs, _, rfl, rfl, h3, by rw [l.length]; exact hz, k r _ _ _ _ (ext_wr h h3 trivial) (wr_lst R h h3 (l.app (.one p))) .non q⟩
theorem m_append {dr : DA} (ho : XE X o d0) (ha : XA X (e :: es) dr) (hbase : attributeBase o "append" X.env (eval o X.env) = eval o X.env := by rfl)
    (hfew : ((backTo cpos (starEach (e :: es) X.env)).all (fun x => !x.1) && (backToKw cpos (keywordEach [] X.env)).all (fun x => x.1.isSome)
      && decide ((e :: es).length + ([] : List Keyword).length + (if ([] : List Keyword).isEmpty then 0 else 1) < 30)) = true := by rfl)
    (hline : (apos.endLine == cpos.line) = true := by rfl) (hs : starEach (e :: es) X.env = (false, eval e X.env) :: starEach es X.env := by rfl) (hplain : (backTo cpos (starEach es X.env)).any (·.1) = false := by rfl) :
    XE X (.Call (.Attribute o "append" apos) (e :: es) [] cpos) (dBM "list" vAppend d0 dr) :=
  xe_bm PySem.F.plainAttrs_list PySem.F.slot_list_append PySem.F.type_list_append mt_append append_sim ho ha hbase hfew hline hs hplain
def vPop0 (x : W) (ws : List W) (S : Sto) (Q : WK) : Prop := match x, ws with
  | .ref i, [] => ∃ zs y, S[i]? = some (.lst zs) ∧ zs[zs.length - 1]? = some y ∧ Q y (S.set i (.lst zs.dropLast))
  | _, _ => False
theorem pop0_sim {K : Fg} : SimM K rPop vPop0 := by
  intro r H S x xs wx ws Q Q0 R px l d k
  cases px <;> try (cases l <;> exact d.elim)
  rename_i a i h
  cases l with
  | cons p l => exact d.elim
  | nil =>
    obtain ⟨zs, y, h0, hy, q⟩ := d
    obtain ⟨xs, h3, l⟩ := R.obj i _ _ h h0
    obtain ⟨v, hv, pv⟩ := l.get hy
    exact ⟨a, xs, v, rfl, rfl, h3, by rw [l.length]; exact hv, k r _ _ _ _ (ext_wr h h3 trivial) (wr_lst R h h3 l.dropLast) (pv.mono (ext_wr h h3 trivial)) q⟩
theorem m_pop0 (ho : XE X o d0) (hbase : attributeBase o "pop" X.env (eval o X.env) = eval o X.env := by rfl) (hline : (apos.endLine == cpos.line) = true := by rfl) :
    XE X (.Call (.Attribute o "pop" apos) [] [] cpos) (dBM0 "list" vPop0 d0) :=
  xe_bm0 PySem.F.plainAttrs_list PySem.F.slot_list_pop PySem.F.type_list_pop mt_pop pop0_sim ho hbase hline
def vPop1 (x : W) (ws : List W) (S : Sto) (Q : WK) : Prop := match x, ws with
  | .ref i, [.int n] => ∃ zs j y, S[i]? = some (.lst zs) ∧ -(2 ^ 63) ≤ n ∧ n < 2 ^ 63 ∧ ixN zs.length n = some j ∧ zs[j]? = some y ∧ Q y (S.set i (.lst (zs.eraseIdx j)))
  | _, _ => False
theorem pop1_sim {K : Fg} : SimM K rPopAt vPop1 := by
  intro r H S x xs wx ws Q Q0 R px l d k
  cases px <;> try (cases l <;> exact d.elim)
  rename_i a i h
  cases l with
  | nil => exact d.elim
  | cons p l =>
    cases l with
    | cons p' l' => cases p <;> exact d.elim
    | nil =>
      cases p <;> try exact d.elim
      rename_i n
      obtain ⟨zs, j, y, h0, n1, n2, hj, hy, q⟩ := d
      obtain ⟨xs, h3, l⟩ := R.obj i _ _ h h0
      obtain ⟨v, hv, pv⟩ := l.get hy
      exact ⟨a, xs, n, j, v, rfl, rfl, h3, n1, n2, by rw [l.length]; exact (ixN_seq hj).1, hv, k r _ _ _ _ (ext_wr h h3 trivial) (wr_lst R h h3 (l.eraseIdx j)) (pv.mono (ext_wr h h3 trivial)) q⟩
theorem m_pop1 {dr : DA} (ho : XE X o d0) (ha : XA X (e :: es) dr) (hbase : attributeBase o "pop" X.env (eval o X.env) = eval o X.env := by rfl)
    (hfew : ((backTo cpos (starEach (e :: es) X.env)).all (fun x => !x.1) && (backToKw cpos (keywordEach [] X.env)).all (fun x => x.1.isSome)
      && decide ((e :: es).length + ([] : List Keyword).length + (if ([] : List Keyword).isEmpty then 0 else 1) < 30)) = true := by rfl)
    (hline : (apos.endLine == cpos.line) = true := by rfl) (hs : starEach (e :: es) X.env = (false, eval e X.env) :: starEach es X.env := by rfl) (hplain : (backTo cpos (starEach es X.env)).any (·.1) = false := by rfl) :
    XE X (.Call (.Attribute o "pop" apos) (e :: es) [] cpos) (dBM "list" vPop1 d0 dr) :=
  xe_bm PySem.F.plainAttrs_list PySem.F.slot_list_pop PySem.F.type_list_pop mt_popAt pop1_sim ho ha hbase hfew hline hs hplain
def vJoin (x : W) (ws : List W) (S : Sto) (Q : WK) : Prop := match x, ws with
  | .str a, [w] => ∃ ys : List Str, seqOf S w = some (ys.map W.str) ∧ (ys.map (·.length)).sum + ys.length * a.length ≤ 16777216 ∧ Q (.str (Txt.join a ys)) S
  | _, _ => False
theorem join_sim {K : Fg} : SimM K (fun x xs H Q => ∃ a p, ∃ ys : List Str, x = .str a ∧ xs = [.ref p] ∧ (SqL K H p (ys.map V.str) ∨ SqT K H p (ys.map V.str)) ∧
    (ys.map (·.length)).sum + ys.length * a.length ≤ 16777216 ∧ Q (.str (Txt.join a ys)) H) vJoin := by
  intro r H S x xs wx ws Q Q0 R px l d k
  cases px <;> try (cases l <;> exact d.elim)
  cases l with
  | nil => exact d.elim
  | cons p l =>
    cases l with
    | cons p' l' => exact d.elim
    | nil =>
      obtain ⟨ys, h0, hz, q⟩ := d
      obtain ⟨a, xs, rfl, hq, l⟩ := seqOf_sim R p h0
      have e := repL_strs l
      subst e
      exact ⟨_, a, ys, rfl, rfl, hq, hz, k r H S _ _ .refl R (.str _) q⟩
theorem m_join {dr : DA} (ho : XE X o d0) (ha : XA X (e :: es) dr) (hbase : attributeBase o "join" X.env (eval o X.env) = eval o X.env := by rfl)
    (hfew : ((backTo cpos (starEach (e :: es) X.env)).all (fun x => !x.1) && (backToKw cpos (keywordEach [] X.env)).all (fun x => x.1.isSome)
      && decide ((e :: es).length + ([] : List Keyword).length + (if ([] : List Keyword).isEmpty then 0 else 1) < 30)) = true := by rfl)
    (hline : (apos.endLine == cpos.line) = true := by rfl) (hs : starEach (e :: es) X.env = (false, eval e X.env) :: starEach es X.env := by rfl) (hplain : (backTo cpos (starEach es X.env)).any (·.1) = false := by rfl) :
    XE X (.Call (.Attribute o "join" apos) (e :: es) [] cpos) (dBM "str" vJoin d0 dr) :=
  xe_bm PySem.F.plainAttrs_str PySem.F.slot_str_join PySem.F.type_str_join mt_join join_sim ho ha hbase hfew hline hs hplain
end
end DL

/-! DLe: sorted, calls of defs by position and by keywords. -/
namespace DL
open PySem PySem.Spec PyProof.Rows L2

/-! ### sorted, of data of any kind -/
def rSortD (K : Fg) : List V → Hp → VK → Prop := fun vs H Q => ∃ (a : Addr) (bs : List (V × DL.W)), vs = [.ref a] ∧ SqL K H a (bs.map (·.1)) ∧ (∀ b ∈ bs, Dp K H b.1 (datW b.2)) ∧
  PySem.W.AllAlike (bs.map fun b => datW b.2) ∧ PySem.W.Sortable (bs.map fun b => datW b.2) ∧ (∀ b ∈ bs, (datW b.2).depth ≤ 60) ∧
  ∀ p, H p = none → Q (.ref p) (upd H p (.lst ((bs.mergeSort (PySem.W.dataLe false fun b => datW b.2)).map (·.1))))
theorem each_vals : ∀ {bs : List (V × DL.W)} {us : List Value}, Vals (bs.map (·.1)) us → PySem.W.EachIs (fun (v : Value) (b : V × DL.W) => RelV b.1 v) us bs
  | [], _, .nil => .nil
  | b :: bs, _, .cons r t => .cons r (each_vals t)
theorem vals_each : ∀ {bs : List (V × DL.W)} {us : List Value}, PySem.W.EachIs (fun (v : Value) (b : V × DL.W) => RelV b.1 v) us bs → Vals (bs.map (·.1)) us
  | _, _, .nil => .nil
  | _, _, .cons r t => .cons r (vals_each t)
section
variable {X : Cx}
theorem cr_sortD (hu : X.A.units + 64 < cLine) : CallR X (.builtin "sorted") (rSortD X.K) := by
  intro pins s σ H vs us Q I r h
  obtain ⟨a, bs, rfl, hs, hd, al, so, dp, q⟩ := h
  obtain ⟨its, rv, hl, hz⟩ := I.list hs
  rw [Vals.ref1 r]
  have e := each_vals rv
  have er : PySem.W.EachIs (fun (v : Value) (b : V × DL.W) => ∃ as, Reads s.heap v (datW b.2) as) its bs := by
    have go : ∀ {cs : List (V × DL.W)} {ws : List Value}, (∀ b ∈ cs, b ∈ bs) → PySem.W.EachIs (fun (v : Value) (b : V × DL.W) => RelV b.1 v) ws cs → PySem.W.EachIs (fun (v : Value) (b : V × DL.W) => ∃ as, Reads s.heap v (datW b.2) as) ws cs := by
      intro cs ws hm h
      induction h with
      | nil => exact .nil
      | cons r t ih => exact .cons (Dp.reads I _ _ _ (hd _ (hm _ List.mem_cons_self)) r) (ih fun b hb => hm b (List.mem_cons_of_mem _ hb))
    exact go (fun _ h => h) e
  have hlen : bs.length ≤ sizeLine := by
    rw [List.length_map] at hz
    exact hz
  refine PySem.W.sorted_data hl.isList e er (by exact al) (by exact so) hlen (fun b hb => by have := dp b hb; omega) fun out ho eo => ?_
  obtain ⟨ep, he'⟩ := PyProof.Rows.sortedAll_at s.heap its (List.toArray out)
  have vo := vals_each eo
  exact ⟨.ref _, upd H (s.heap.objs.size + 1) (.lst ((bs.mergeSort (PySem.W.dataLe false fun b => datW b.2)).map (·.1))), I.laid (t' := s.toks) (fun _ _ => PyProof.Rows.sortedAll_old) (Nat.le_succ _)
    ⟨by rw [List.length_map, List.length_mergeSort]; exact hlen, out, ep, vo, he'⟩, rfl, q _ (I.hok.fresh (Nat.le_succ _))⟩
end
def leW (a b : DL.W) : Bool := PySem.W.dataLe false datW a b
def vSorted (xs : List DL.W) (S : Sto) (Q : WK) : Prop := match xs with
  | [.ref i] => ∃ ws, S[i]? = some (.lst ws) ∧ W.pureL ws = true ∧ PySem.W.AllAlike (ws.map datW) ∧ PySem.W.Sortable (ws.map datW) ∧ (∀ w ∈ ws, (datW w).depth ≤ 60) ∧ Q (.ref S.length) (S ++ [.lst (ws.mergeSort leW)])
  | [.lit ws] => W.pureL ws = true ∧ PySem.W.AllAlike (ws.map datW) ∧ PySem.W.Sortable (ws.map datW) ∧ (∀ w ∈ ws, (datW w).depth ≤ 60) ∧ Q (.ref S.length) (S ++ [.lst (ws.mergeSort leW)])
  | _ => False
theorem zip_fst {α β : Type} : ∀ {xs : List α} {ys : List β}, xs.length = ys.length → (xs.zip ys).map (·.1) = xs
  | [], [], _ => rfl
  | [], _ :: _, h => by cases h
  | _ :: _, [], h => by cases h
  | x :: xs, y :: ys, h => by
    show x :: (xs.zip ys).map (·.1) = x :: xs
    rw [zip_fst (Nat.succ.inj h)]
theorem zip_snd {α β : Type} : ∀ {xs : List α} {ys : List β}, xs.length = ys.length → (xs.zip ys).map (·.2) = ys
  | [], [], _ => rfl
  | [], _ :: _, h => by cases h
  | _ :: _, [], h => by cases h
  | x :: xs, y :: ys, h => by
    show y :: (xs.zip ys).map (·.2) = y :: ys
    rw [zip_snd (Nat.succ.inj h)]
theorem repL_zip {K : Fg} {r : List Addr} {H : Hp} : ∀ {vs : List V} {ws : List DL.W}, RepL K r H vs ws → ∀ b ∈ vs.zip ws, Rep K r H b.1 b.2
  | _, _, .nil => fun b hb => nomatch hb
  | _, _, .cons h l => fun b hb => by
    rcases List.mem_cons.mp hb with e | m
    · rw [e]
      exact h
    · exact repL_zip l b m
theorem repL_of_pairs {K : Fg} {r : List Addr} {H : Hp} : ∀ {bs : List (V × DL.W)}, (∀ b ∈ bs, Rep K r H b.1 b.2) → RepL K r H (bs.map (·.1)) (bs.map (·.2))
  | [], _ => .nil
  | b :: bs, h => .cons (h b List.mem_cons_self) (repL_of_pairs fun c hc => h c (List.mem_cons_of_mem _ hc))
theorem pureL_mem {ws : List DL.W} (h : W.pureL ws = true) : ∀ w ∈ ws, w.pure = true := by
  induction ws with
  | nil => intro w hw; cases hw
  | cons u us ih =>
    have b : (u.pure && W.pureL us) = true := h
    rw [Bool.and_eq_true] at b
    intro w hw
    rcases List.mem_cons.mp hw with e | m
    · rw [e]; exact b.1
    · exact ih b.2 w m
theorem sorted_sim {K : Fg} : SimC K (rSortD K) vSorted := by
  intro r H S xs ws Q Q0 R l d k
  have go : ∀ {a : Addr} {vs : List V} {us : List DL.W}, SqL K H a vs → RepL K r H vs us → W.pureL us = true → PySem.W.AllAlike (us.map datW) → PySem.W.Sortable (us.map datW) → (∀ w ∈ us, (datW w).depth ≤ 60) → Q (.ref S.length) (S ++ [.lst (us.mergeSort leW)]) → rSortD K [.ref a] H Q0 := by
    intro a vs us hs l hp al so dp q
    have hl := l.length
    have e1 := zip_fst hl
    have e2 := zip_snd hl
    have e3 : (vs.zip us).map (fun b => datW b.2) = us.map datW := by
      have e5 : (vs.zip us).map (fun b => datW b.2) = ((vs.zip us).map (·.2)).map datW := by
        rw [List.map_map]
        rfl
      rw [e5, e2]
    refine ⟨a, vs.zip us, rfl, by rw [e1]; exact hs, fun b hb => dp_of (repL_zip l b hb) (pureL_mem hp _ (by rw [← e2]; exact List.mem_map_of_mem hb)), by rw [e3]; exact al, by rw [e3]; exact so, fun b hb => dp _ (by rw [← e2]; exact List.mem_map_of_mem hb), fun p hp' => ?_⟩
    have e4 : ((vs.zip us).mergeSort (PySem.W.dataLe false fun b => datW b.2)).map (·.2) = us.mergeSort leW := by
      have z := List.map_mergeSort (r := PySem.W.dataLe false fun b : V × DL.W => datW b.2) (s := leW) (f := fun b : V × DL.W => b.2) (l := vs.zip us) fun x _ y _ => rfl
      rw [z, e2]
    have rl : RepL K r H (((vs.zip us).mergeSort (PySem.W.dataLe false fun b => datW b.2)).map (·.1)) (us.mergeSort leW) := by
      rw [← e4]
      exact repL_of_pairs fun b hb => repL_zip l b ((List.mergeSort_perm _ _).mem_iff.mp hb)
    exact k _ _ _ _ _ (ext_mem hp') (new_lst R hp' rl) (rep_mem R) q
  cases l with
  | nil => exact d.elim
  | cons p l =>
    cases l with
    | cons p' l' => cases p <;> exact d.elim
    | nil =>
      cases p <;> try exact d.elim
      · rename_i a vs us h l
        obtain ⟨h1, h2, h3, h4, q⟩ := d
        exact go h.1 l h1 h2 h3 h4 q
      · rename_i a i h
        obtain ⟨us, h0, h1, h2, h3, h4, q⟩ := d
        obtain ⟨vs, h5, l⟩ := R.obj i _ _ h h0
        exact go (.of h5) l h1 h2 h3 h4 q
section
variable {X : Cx} {e : Expr} {es : List Expr} {dA : DA} {pos p : Pos}
theorem c_sorted (hu : X.A.units + 64 < cLine) (hg : Gl X "sorted") (hm : X.mg "sorted" = none) (ha : XA X (e :: es) dA) (he : starEach (e :: es) X.env = (false, eval e X.env) :: starEach es X.env := by rfl) (hpl : (backTo pos (starEach es X.env)).any (·.1) = false := by rfl) : XE X (.Call (.Name "sorted" p) (e :: es) [] pos) (dCB vSorted dA) :=
  xe_callB (cr_sortD hu) sorted_sim hg hm (by decide +kernel) ha (by decide) (by decide) he hpl
end

/-! ### defs: what they promise, how they are called -/
structure TDef (P : Program) (w : World) (K : Fg) (mg : Str → Option Value) (base : Heap) (k : Nat) (x : Str) (st : Stmt) (ps : List Str) (F : DSpec) : Prop where
  ex : ∃ f fd, FnOk P w K mg base CX0 k f fd ps (spOf K F) ∧ mg x = some (.ref f) ∧ PySem.W.keepIn K (.ref f) = true ∧ Binds K fd ps [] ∧
    ∃ (kV doc pm : Value) (an : Option Addr) (cdv ct : Value), fd = PySem.W.fnOf x x (defArgs st) (defBody st) (defScope st) .none kV doc pm an cdv ct
def permL {α : Type} (perm : List Nat) (l : List α) : List α := perm.filterMap fun i => l[i]?
/-- how n values by position and those of the keywords ks come to the parameters -/
structure KPat (x : Str) (st : Stmt) (ps : List Str) (n : Nat) (ks : List Str) (perm : List Nat) : Prop where
  bind : ∀ (kV doc pm : Value) (an : Option Addr) (cdv ct : Value) (us ws : List Value), us.length = n → ws.length = ks.length →
    bindArgs (PySem.W.fnOf x x (defArgs st) (defBody st) (defScope st) .none kV doc pm an cdv ct) ⟨us, ks.zip ws⟩ = pure (ps.zip (permL perm (us ++ ws)))
  ne : ps ≠ []
theorem valsPerm {vs : List V} {us : List Value} (r : Vals vs us) : ∀ perm : List Nat, Vals (permL perm vs) (permL perm us)
  | [] => .nil
  | i :: perm => by
    unfold permL
    cases h : vs[i]? with
    | none =>
      have h2 := r.none_of h
      rw [List.filterMap_cons_none h, List.filterMap_cons_none h2]
      exact valsPerm r perm
    | some v =>
      obtain ⟨u, h2, q⟩ := r.get h
      rw [List.filterMap_cons_some h, List.filterMap_cons_some h2]
      exact .cons q (valsPerm r perm)
theorem RepL.perm {K : Fg} {r : List Addr} {H : Hp} {vs : List V} {ws : List DL.W} (l : RepL K r H vs ws) : ∀ perm : List Nat, RepL K r H (permL perm vs) (permL perm ws)
  | [] => .nil
  | i :: perm => by
    unfold permL
    cases h : ws[i]? with
    | none =>
      have h2 : vs[i]? = none := by
        rw [List.getElem?_eq_none_iff, l.length]
        exact List.getElem?_eq_none_iff.mp h
      rw [List.filterMap_cons_none h, List.filterMap_cons_none h2]
      exact RepL.perm l perm
    | some v =>
      obtain ⟨u, h2, q⟩ := l.get h
      rw [List.filterMap_cons_some h, List.filterMap_cons_some h2]
      exact .cons q (RepL.perm l perm)
open Classical in
theorem kb_of {K : Fg} {x : Str} {st : Stmt} {ps ks : List Str} {n : Nat} {perm : List Nat} {fd : FuncData} (h : KPat x st ps n ks perm) (hf : ∃ (kV doc pm : Value) (an : Option Addr) (cdv ct : Value), fd = PySem.W.fnOf x x (defArgs st) (defBody st) (defScope st) .none kV doc pm an cdv ct) :
    KBinds K fd ps ks (fun us ws => if us.length = n ∧ ws.length = ks.length then permL perm (us ++ ws) else []) (fun us ws => if us.length = n ∧ ws.length = ks.length then permL perm (us ++ ws) else []) := by
  obtain ⟨kV, doc, pm, an, cdv, ct, rfl⟩ := hf
  refine ⟨fun s us ws _ hl => ?_, fun {vs us zs ws} r1 r2 => ?_⟩
  · by_cases c : us.length = n ∧ ws.length = ks.length
    · rw [if_pos c]
      exact .of_eq (h.bind kV doc pm an cdv ct us ws c.1 c.2)
    · rw [if_neg c] at hl
      exact absurd (List.eq_nil_of_length_eq_zero hl.symm) h.ne
  · rw [r1.length, r2.length]
    split
    · exact valsPerm (r1.append r2) perm
    · exact .nil
section
variable {X : Cx} {pos p kpos : Pos} {e : Expr} {es : List Expr} {kws : List Keyword} {x : Str} {de : DE} {da dk : DA} {k j : Nat} {st : Stmt} {ps ks : List Str} {F : DSpec}
theorem c_def (G : TDef X.prog X.w X.K X.mg X.base k x st ps F) (hr : Room j X.A) (ha : XA X (e :: es) da) (hk : k ≤ j := by decide) (hg : Gl X x := by rfl)
    (hdb : (x == ("__debug__" : Str)) = false := by decide) (he : starEach (e :: es) X.env = (false, eval e X.env) :: starEach es X.env := by rfl) (hpl : (backTo pos (starEach es X.env)).any (·.1) = false := by rfl) :
    XE X (.Call (.Name x p) (e :: es) [] pos) (dCall F da) := by
  obtain ⟨f, fd, h1, h2, h3, h4, _⟩ := G.ex
  exact xe_call h1 (hr.mono hk) hg h2 h3 h4 ha hdb he hpl
theorem c_def0 (G : TDef X.prog X.w X.K X.mg X.base k x st ps F) (hr : Room j X.A) (hk : k ≤ j := by decide) (hg : Gl X x := by rfl) (hdb : (x == ("__debug__" : Str)) = false := by decide) : XE X (.Call (.Name x p) [] [] pos) (dCall F aNil) := by
  obtain ⟨f, fd, h1, h2, h3, h4, _⟩ := G.ex
  exact xe_call0 h1 (hr.mono hk) hg h2 h3 h4 hdb
structure XK (X : Cx) (kws : List Keyword) (d : DA) : Prop where
  ex : ∃ t, PK X kws t ∧ SimA X.K t d
theorem xk_nil : XK X [] aNil := ⟨_, pk_nil, fun r H S s env Q Q0 R E d k => k r H S [] [] .refl R .nil d⟩
theorem xk_cons {nm : Option Str} (ha : XE X e de) (hr : XK X kws dk) : XK X (⟨nm, e, kpos⟩ :: kws) (aCons de dk) := by
  obtain ⟨ta, pa, sa⟩ := ha.ex
  obtain ⟨tr, pr, sr⟩ := hr.ex
  exact ⟨_, pk_cons pa pr, sim_cons sa sr⟩
theorem pe_callK0 {CX : CXT} {f : Addr} {fd : FuncData} {sp : Sp} {E : L2.XK} {tk : TA} {g : List Value → List Value → List Value} {gV : List V → List V → List V} (G : FnOk X.prog X.w X.K X.mg X.base CX k f fd ps sp) (hr : Room k X.A) (hg : Gl X x) (hm : X.mg x = some (.ref f)) (hk : PySem.W.keepIn X.K (.ref f) = true) (hb : KBinds X.K fd ps ks g gV) (hx : Passes CX X E)
    (hkw : PK X kws tk) (hall : (backToKw pos (keywordEach kws X.env)).all (·.1.isSome) = true := by rfl) (hks : (backToKw pos (keywordEach kws X.env)).filterMap (·.1) = ks := by rfl)
    (hdb : (x == ("__debug__" : Str)) = false := by decide) (hpl : ((backTo pos (starEach [] X.env)).any (·.1) || (backToKw pos (keywordEach kws X.env)).any (·.1.isNone)) = false := by rfl) :
    PE X (.Call (.Name x p) [] kws pos) (tCallK sp gV E tNil tk) := by
  refine ⟨fun pins s σ H Q I h => ?_⟩
  refine wpAny_Call_Name_kw (ld_glob I hg hm ?_ hdb)
  refine PySem.W.callWith_KW0 (h₀ := X.base) I.ok.mod.kin hk hall (thn (hkw.run pos pins s σ H _ I h) fun ws s2 ⟨zs, H2, I2, rz, q2⟩ => ⟨I2.kIn, ?_⟩) hpl
  rw [hks]
  exact run_fnk (us := []) (vs := []) G hr hb hx I2 .nil rz q2
def dCallK (F : DSpec) (perm : List Nat) (n m : Nat) (da dk : DA) : DE := fun env S Q => da env S fun us S1 => dk env S1 fun ws S2 => us.length = n ∧ ws.length = m ∧ F (permL perm (us ++ ws)) S2 Q
theorem sim_callK {K : Fg} {n : Nat} {perm : List Nat} {ta tk : TA} {m : Nat} (hm : m = ks.length) (sa : SimA K ta da) (sk : SimA K tk dk) :
    Sim K (tCallK (spOf K F) (fun us ws => if us.length = n ∧ ws.length = ks.length then permL perm (us ++ ws) else []) E0 ta tk) (dCallK F perm n m da dk) := fun r H S s env Q Q0 R E d k =>
  sa r H S s env _ _ R E d fun r1 H1 S1 vs ws e1 R1 q1 d1 => sk r1 H1 S1 s env _ _ R1 (E.mono e1) d1 fun r2 H2 S2 us zs e2 R2 q2 d2 => by
    have l1 := q1.length
    have l2 := q2.length
    refine ⟨r2, S2, permL perm (ws ++ zs), Q, R2, ?_, d2.2.2, fun r3 H3 S3 v w e3 => k r3 H3 S3 v w ((e1.trans e2).trans e3)⟩
    show RepL K r2 H2 (if vs.length = n ∧ us.length = ks.length then permL perm (vs ++ us) else []) _
    rw [if_pos ⟨by rw [l1]; exact d2.1, by rw [l2, ← hm]; exact d2.2.1⟩]
    exact ((q1.mono e2).app q2).perm perm
theorem c_defk {n m : Nat} {perm : List Nat} (G : TDef X.prog X.w X.K X.mg X.base k x st ps F) (kb : KPat x st ps n ks perm) (hr : Room j X.A) (ha : XA X (e :: es) da) (hkw : XK X kws dk) (hm : m = ks.length := by rfl) (hk : k ≤ j := by decide) (hg : Gl X x := by rfl)
    (hall : (backToKw pos (keywordEach kws X.env)).all (·.1.isSome) = true := by rfl) (hks : (backToKw pos (keywordEach kws X.env)).filterMap (·.1) = ks := by rfl)
    (hdb : (x == ("__debug__" : Str)) = false := by decide) (he : starEach (e :: es) X.env = (false, eval e X.env) :: starEach es X.env := by rfl)
    (hpl : ((backTo pos (starEach (e :: es) X.env)).any (·.1) || (backToKw pos (keywordEach kws X.env)).any (·.1.isNone)) = false := by rfl) : XE X (.Call (.Name x p) (e :: es) kws pos) (dCallK F perm n m da dk) := by
  obtain ⟨f, fd, h1, h2, h3, h4, h5⟩ := G.ex
  obtain ⟨ta, pa, sa⟩ := ha.ex
  obtain ⟨tk, pk, sk⟩ := hkw.ex
  exact ⟨_, pe_callK h1 (hr.mono hk) hg h2 h3 (kb_of kb h5) pass0 pa pk hall hks hdb he hpl, sim_callK hm sa sk⟩
theorem c_defk0 {n m : Nat} {perm : List Nat} (G : TDef X.prog X.w X.K X.mg X.base k x st ps F) (kb : KPat x st ps n ks perm) (hr : Room j X.A) (hkw : XK X kws dk) (hm : m = ks.length := by rfl) (hk : k ≤ j := by decide) (hg : Gl X x := by rfl)
    (hall : (backToKw pos (keywordEach kws X.env)).all (·.1.isSome) = true := by rfl) (hks : (backToKw pos (keywordEach kws X.env)).filterMap (·.1) = ks := by rfl)
    (hdb : (x == ("__debug__" : Str)) = false := by decide) (hpl : ((backTo pos (starEach [] X.env)).any (·.1) || (backToKw pos (keywordEach kws X.env)).any (·.1.isNone)) = false := by rfl) : XE X (.Call (.Name x p) [] kws pos) (dCallK F perm n m aNil dk) := by
  obtain ⟨f, fd, h1, h2, h3, h4, h5⟩ := G.ex
  obtain ⟨tk, pk, sk⟩ := hkw.ex
  exact ⟨_, pe_callK0 h1 (hr.mono hk) hg h2 h3 (kb_of kb h5) pass0 pk hall hks hdb hpl, sim_callK hm (fun r H S s env Q Q0 R E d k => k r H S [] [] .refl R .nil d) sk⟩
end
/-- a def as it stands behind the top -/
structure TFun (K : Fg) (mg : Str → Option Value) (x : Str) (st : Stmt) (ps : List Str) : Prop where
  ex : ∃ f fd, Fun K x x st f fd ∧ mg x = some (.ref f) ∧ Binds K fd ps []
section
variable {P : Program} {w : World} {K : Fg} {mg : Str → Option Value} {base : Heap}
abbrev endsW (n : Nat) (Q : WK) : DEnds := { nx := fun _ S' => Ends0 n Q .non S', rt := Ends0 n Q, bk := fun _ _ => False, ct := fun _ _ => False }
theorem TFun.ok {x : Str} {st : Stmt} {N ps : List Str} {k : Nat} {F : DSpec} {d : DS} (T : TFun K mg x st ps) (Sc : FnScope N ps (defScope st))
    (der : ∀ (f : Addr) (cdv : Value) (A : Around) (outer : List PySem.Env) (s : Shared) (H : Hp) (E : L2.XK), Room k (A.deeper (envOfC x (defScope st) s.heap.objs.size f cdv)) → XSs (cxOf CX0 P w K mg base N x (defScope st) f cdv A outer s H E).nox (defBody st) d)
    (len : ∀ ws S Q, F ws S Q → ws.length = ps.length) (vc : ∀ ws S Q, Closed S → F ws S Q → d (endsW S.length Q) (startW N.length ws) S) : TDef P w K mg base (k + 1) x st ps F := by
  obtain ⟨f, fd, h1, h2, h3⟩ := T.ex
  obtain ⟨_, _, kV, doc, pm, an, cdv, ct, _, e, _⟩ := h1.ex
  exact ⟨f, fd, fn_d h1 Sc len fun cdv A outer s H E hr => ⟨d, der f cdv A outer s H E hr, vc⟩, h2, h1.kp, h3, kV, doc, pm, an, cdv, ct, e⟩
end
end DL

/-! DLf: the denotations' equations, for rewriting. -/
namespace DL
open PySem PySem.Spec PyProof.Rows L2
section
variable {D : DEnds} {env : Slots} {S : Sto} {Q : WK} {QT : Bool → Sto → Prop} {QA : List DL.W → Sto → Prop} {QE : Slots → Sto → Prop} {t u : DS} {c : DT} {da db dd : DE} {dr : DA} {g : DG} {i j : Nat}
theorem e_seq : dSeq t u D env S = t { D with nx := u D } env S := rfl
theorem e_asg : dAsg da g D env S = da env S fun w S1 => g w env S1 D.nx := rfl
theorem e_nm {w : DL.W} : gNm i w env S QE = QE (env.set i (some w)) S := rfl
theorem e_op {d : DL.W → DL.W → Sto → WK → Prop} : dOp d da db env S Q = da env S fun x S1 => db env S1 fun y S2 => d x y S2 Q := rfl
theorem e_un {d : DL.W → Sto → WK → Prop} : dUn d da env S Q = da env S fun x S1 => d x S1 Q := rfl
theorem e_cb {d : List DL.W → Sto → WK → Prop} : dCB d dr env S Q = dr env S fun ws S1 => d ws S1 Q := rfl
theorem e_c {w : DL.W} : dC w env S Q = Q w S := rfl
theorem e_var {w : DL.W} (h : env[i]? = some (some w)) : dVar i env S Q = Q w S := by
  unfold dVar
  rw [h]
  exact propext ⟨fun ⟨w', e, q⟩ => by cases e; exact q, fun q => ⟨w, rfl, q⟩⟩
theorem e_ifs : dIfS c t u D env S = c env S fun b S1 => if b = true then t D env S1 else u D env S1 := rfl
theorem e_tru : dTru da env S QT = da env S fun w S1 => vTru w S1 fun b => QT b S1 := rfl
theorem e_B : dB da env S QT = da env S fun w S1 => ∃ c, w = .bl c ∧ QT c S1 := rfl
theorem e_drop : dDrop da D env S = da env S fun _ S1 => D.nx env S1 := rfl
theorem e_bm {T : String} {d : DL.W → List DL.W → Sto → WK → Prop} : dBM T d da dr env S Q = da env S fun x S1 => vTy T x S1 ∧ dr env S1 fun ws S2 => d x ws S2 Q := rfl
theorem e_bm0 {T : String} {d : DL.W → List DL.W → Sto → WK → Prop} : dBM0 T d da env S Q = da env S fun x S1 => vTy T x S1 ∧ d x [] S1 Q := rfl
theorem e_ret : dRet da D env S = da env S D.rt := rfl
theorem e_retN : dRetN D env S = D.rt .non S := rfl
theorem e_next : dNext D env S = D.nx env S := rfl
theorem e_break : dBreak D env S = D.bk env S := rfl
theorem e_cont : dCont D env S = D.ct env S := rfl
theorem e_nil : aNil env S QA = QA [] S := rfl
theorem e_cons : aCons da dr env S QA = da env S fun w S1 => dr env S1 fun ws S2 => QA (w :: ws) S2 := rfl
theorem e_tup : dTup dr env S Q = dr env S fun ws S1 => ws.length ≤ sizeLine ∧ Q (.tup ws) S1 := rfl
theorem e_lst : dLst dr env S Q = dr env S fun ws S1 => ws.length ≤ sizeLine ∧ Q (.ref S1.length) (S1 ++ [.lst ws]) := rfl
theorem e_sl {d : DL.W → Option Int → Option Int → Sto → WK → Prop} {dl dh : DO} : dSl d da dl dh env S Q = da env S fun x S1 => dl env S1 fun l S2 => dh env S2 fun u S3 => d x l u S3 Q := rfl
theorem e_onone {q : Option Int → Sto → Prop} : oNone env S q = q none S := rfl
theorem e_osome {q : Option Int → Sto → Prop} : oSome da env S q = da env S fun w S1 => ∃ i, w = .int i ∧ q (some i) S1 := rfl
theorem e_gsub {d : DL.W → DL.W → DL.W → Sto → (Sto → Prop) → Prop} {w : DL.W} : gSb da db d w env S QE = da env S fun o S1 => db env S1 fun i S2 => d o i w S2 fun S3 => QE env S3 := rfl
theorem e_call {F : DSpec} : dCall F dr env S Q = dr env S fun ws S1 => F ws S1 Q := rfl
theorem e_callk {F : DSpec} {perm : List Nat} {n m : Nat} {dk : DA} : dCallK F perm n m dr dk env S Q = dr env S fun us S1 => dk env S1 fun ws S2 => us.length = n ∧ ws.length = m ∧ F (permL perm (us ++ ws)) S2 Q := rfl
theorem e_and {b : DT} : dAndT c b env S QT = c env S fun k S1 => if k = true then b env S1 QT else QT false S1 := rfl
theorem e_or {b : DT} : dOrT c b env S QT = c env S fun k S1 => if k = true then QT true S1 else b env S1 QT := rfl
theorem e_not : dNotT c env S QT = c env S fun k S1 => QT (!k) S1 := rfl
theorem e_andv : dAndV da db env S Q = da env S fun w S1 => ∃ c, w = .bl c ∧ if c = true then db env S1 Q else Q (.bl false) S1 := rfl
theorem e_orv : dOrV da db env S Q = da env S fun w S1 => ∃ c, w = .bl c ∧ if c = true then Q (.bl true) S1 else db env S1 Q := rfl
theorem e_notv : dNotV da env S Q = da env S fun w S1 => ∃ c, w = .bl c ∧ Q (.bl (!c)) S1 := rfl
theorem e_if : dIf c da db env S Q = c env S fun k S1 => if k = true then da env S1 Q else db env S1 Q := rfl
theorem e_par {i j : Nat} : dPar i j dr D env S = dr env S fun ws S1 => ∃ v w, ws = [v, w] ∧ D.nx ((env.set i (some v)).set j (some w)) S1 := rfl
theorem e_for {di : DI} : dFor di g t D env S = di env S fun its still S1 => forW g t still its D env S1 := rfl
theorem e_comp {di : DI} {tt : DT} {vs : List Nat} : dComp di g tt dd vs env S Q = di env S fun its still S1 => compW g tt dd vs still env Q its [] S1 := rfl
theorem e_iseq {q : List DL.W → (Sto → Prop) → Sto → Prop} : iSeq da env S q = da env S fun w S1 => vSeqI w S1 q := rfl
theorem e_rng1 {q : List DL.W → (Sto → Prop) → Sto → Prop} : DL.iRng1 dr env S q = dr env S fun ws S1 => ∃ j : Int, ws = [.int j] ∧ -(2 ^ 62) ≤ j ∧ j < 2 ^ 62 ∧ q (rngW 0 j.toNat) (fun _ => True) S1 := rfl
theorem e_yes : dYes env S QT = QT true S := rfl
theorem e_gtp {n : Nat} {gs : DGs} {ws : List DL.W} : gTp n gs (.tup ws) env S QE = (ws.length = n ∧ gs ws env S QE) :=
  propext ⟨fun ⟨ws', e, h, q⟩ => by cases e; exact ⟨h, q⟩, fun ⟨h, q⟩ => ⟨ws, rfl, h, q⟩⟩
theorem e_gc {gs : DGs} {w : DL.W} {ws : List DL.W} : gC g gs (w :: ws) env S QE = g w env S fun env1 S1 => gs ws env1 S1 QE :=
  propext ⟨fun ⟨w', ws', e, q⟩ => by cases e; exact q, fun q => ⟨w, ws, rfl, q⟩⟩
theorem e_gn0 : gN0 [] env S QE = QE env S := propext ⟨fun ⟨_, q⟩ => q, fun q => ⟨rfl, q⟩⟩
/-! values -/
theorem e_addI {i j : Int} : vAdd (.int i) (.int j) S Q = Q (.int (i + j)) S := rfl
theorem e_addS {a b : Str} : vAdd (.str a) (.str b) S Q = (a.length + b.length ≤ sizeLine ∧ Q (.str (a ++ b)) S) := rfl
theorem e_addT {a b : List DL.W} : vAdd (.tup a) (.tup b) S Q = (a.length + b.length ≤ sizeLine ∧ Q (.tup (a ++ b)) S) := rfl
theorem e_addL {a b : List DL.W} (h : S[i]? = some (.lst a)) (h' : S[j]? = some (.lst b)) : vAdd (.ref i) (.ref j) S Q = (a.length + b.length ≤ sizeLine ∧ Q (.ref S.length) (S ++ [.lst (a ++ b)])) := by
  show (∃ a b, S[i]? = some (.lst a) ∧ S[j]? = some (.lst b) ∧ a.length + b.length ≤ sizeLine ∧ Q (.ref S.length) (S ++ [.lst (a ++ b)])) = _
  rw [h, h']
  exact propext ⟨fun ⟨a', b', e1, e2, q⟩ => by cases e1; cases e2; exact q, fun q => ⟨a, b, rfl, rfl, q⟩⟩
theorem e_i20 {f : Int → Int → DL.W} {a b : Int} : vI20 f (.int a) (.int b) S Q = Q (f a b) S := rfl
theorem e_i2 {C : Int → Int → Prop} {f : Int → Int → DL.W} {a b : Int} : vI2 C f (.int a) (.int b) S Q = (C a b ∧ Q (f a b) S) := rfl
theorem e_neg {a : Int} : vNeg (.int a) S Q = Q (.int (-a)) S := rfl
theorem e_cmpI {f : Int → Int → Bool} {f' : Str → Str → Bool} {a b : Int} : vCmp f f' (.int a) (.int b) S Q = Q (.bl (f a b)) S := rfl
theorem e_cmpS {f : Int → Int → Bool} {f' : Str → Str → Bool} {a b : Str} : vCmp f f' (.str a) (.str b) S Q = Q (.bl (f' a b)) S := rfl
theorem e_eqI {n : Bool} {a b : Int} : vEqG n (.int a) (.int b) S Q = Q (.bl (n ^^ decide (a = b))) S := rfl
theorem e_eqS {n : Bool} {a b : Str} : vEqG n (.str a) (.str b) S Q = Q (.bl (n ^^ decide (a = b))) S := rfl
theorem e_eqB {n : Bool} {a b : Bool} : vEqG n (.bl a) (.bl b) S Q = Q (.bl (n ^^ decide (a = b))) S := rfl
theorem e_ixT {ws : List DL.W} {k : Int} {w : DL.W} (h : atI ws k = some w) : vIx (.tup ws) (.int k) S Q = Q w S := by
  show (∃ w, atI ws k = some w ∧ Q w S) = _
  rw [h]
  exact propext ⟨fun ⟨w', e, q⟩ => by cases e; exact q, fun q => ⟨w, rfl, q⟩⟩
theorem e_ixLit {ws : List DL.W} {k : Int} {w : DL.W} (h : atI ws k = some w) : vIx (.lit ws) (.int k) S Q = Q w S := by
  show (∃ w, atI ws k = some w ∧ Q w S) = _
  rw [h]
  exact propext ⟨fun ⟨w', e, q⟩ => by cases e; exact q, fun q => ⟨w, rfl, q⟩⟩
theorem e_ixL {ws : List DL.W} {k : Int} {w : DL.W} (h0 : S[i]? = some (.lst ws)) (h : atI ws k = some w) : vIx (.ref i) (.int k) S Q = Q w S := by
  show (∃ ws w, S[i]? = some (.lst ws) ∧ atI ws k = some w ∧ Q w S) = _
  rw [h0]
  exact propext ⟨fun ⟨ws', w', e, e2, q⟩ => by cases e; rw [h] at e2; cases e2; exact q, fun q => ⟨ws, w, rfl, h, q⟩⟩
theorem e_ixS {z : Str} {k : Int} {c : Nat} (h : atI z.cps.toList k = some c) : vIx (.str z) (.int k) S Q = (z.length ≤ sizeLine ∧ Q (.str ⟨#[c]⟩) S) := by
  show (∃ c, z.length ≤ sizeLine ∧ atI z.cps.toList k = some c ∧ Q (.str ⟨#[c]⟩) S) = _
  rw [h]
  exact propext ⟨fun ⟨c', e, e2, q⟩ => by cases e2; exact ⟨e, q⟩, fun q => ⟨c, q.1, rfl, q.2⟩⟩
theorem e_set {ws : List DL.W} {k : Int} {m : Nat} {w : DL.W} {q : Sto → Prop} (h0 : S[i]? = some (.lst ws)) (h : ixN ws.length k = some m) : vSet (.ref i) (.int k) w S q = q (S.set i (.lst (ws.set m w))) := by
  show (∃ ws j, S[i]? = some (.lst ws) ∧ ixN ws.length k = some j ∧ q (S.set i (.lst (ws.set j w)))) = _
  rw [h0]
  exact propext ⟨fun ⟨ws', j', e, e2, q⟩ => by cases e; rw [h] at e2; cases e2; exact q, fun q => ⟨ws, m, rfl, h, q⟩⟩
theorem e_slT {ws : List DL.W} {lo hi : Option Int} : vSl (.tup ws) lo hi S Q = Q (.tup (cutW ws lo hi)) S := rfl
theorem e_slLit {ws : List DL.W} {lo hi : Option Int} : vSl (.lit ws) lo hi S Q = Q (.ref S.length) (S ++ [.lst (cutW ws lo hi)]) := rfl
theorem e_slS {z : Str} {lo hi : Option Int} : vSl (.str z) lo hi S Q = (z.length ≤ sizeLine ∧ Q (.str (cutS z lo hi)) S) := rfl
theorem e_slL {ws : List DL.W} {lo hi : Option Int} (h : S[i]? = some (.lst ws)) : vSl (.ref i) lo hi S Q = Q (.ref S.length) (S ++ [.lst (cutW ws lo hi)]) := by
  show (∃ ws, S[i]? = some (.lst ws) ∧ Q (.ref S.length) (S ++ [.lst (cutW ws lo hi)])) = _
  rw [h]
  exact propext ⟨fun ⟨ws', e, q⟩ => by cases e; exact q, fun q => ⟨ws, rfl, q⟩⟩
theorem e_lenS {z : Str} : vLen [.str z] S Q = (z.length ≤ sizeLine ∧ Q (.int z.length) S) := rfl
theorem ex_seq {p : List DL.W → Prop} {w : DL.W} {ws : List DL.W} (h : seqOf S w = some ws) : (∃ us, seqOf S w = some us ∧ p us) = p ws := by
  rw [h]
  exact propext ⟨fun ⟨ws', e, q⟩ => by cases e; exact q, fun q => ⟨ws, rfl, q⟩⟩
theorem e_lenT {ws : List DL.W} : vLen [.tup ws] S Q = Q (.int ws.length) S := ex_seq (p := fun us => Q (.int us.length) S) rfl
theorem e_lenLit {ws : List DL.W} : vLen [.lit ws] S Q = Q (.int ws.length) S := ex_seq (p := fun us => Q (.int us.length) S) rfl
theorem e_lenL {ws : List DL.W} (h : S[i]? = some (.lst ws)) : vLen [.ref i] S Q = Q (.int ws.length) S := ex_seq (p := fun us => Q (.int us.length) S) (seqOf_ref h)
theorem e_i1 {f : Int → DL.W} {a : Int} : vI1 f [.int a] S Q = Q (f a) S := rfl
theorem e_intI {a : Int} : vIntOf [.int a] S Q = Q (.int a) S := rfl
theorem e_intB {a : Bool} : vIntOf [.bl a] S Q = Q (.int (if a then 1 else 0)) S := rfl
theorem e_strI {a : Int} : vStrOf [.int a] S Q = (a.natAbs.log2 < 1920 ∧ Q (.str (toString a)) S) := rfl
theorem e_strS {a : Str} : vStrOf [.str a] S Q = Q (.str a) S := rfl
theorem e_listT {ws : List DL.W} : vList [.tup ws] S Q = Q (.ref S.length) (S ++ [.lst ws]) := ex_seq (p := fun us : List DL.W => Q (DL.W.ref S.length) (S ++ [O.lst us])) rfl
theorem e_listLit {ws : List DL.W} : vList [.lit ws] S Q = Q (.ref S.length) (S ++ [.lst ws]) := ex_seq (p := fun us : List DL.W => Q (DL.W.ref S.length) (S ++ [O.lst us])) rfl
theorem e_listL {ws : List DL.W} (h : S[i]? = some (.lst ws)) : vList [.ref i] S Q = Q (.ref S.length) (S ++ [.lst ws]) := ex_seq (p := fun us : List DL.W => Q (DL.W.ref S.length) (S ++ [O.lst us])) (seqOf_ref h)
theorem e_tupleT {ws : List DL.W} : vTuple [.tup ws] S Q = Q (.tup ws) S := ex_seq (p := fun us => Q (.tup us) S) rfl
theorem e_tupleL {ws : List DL.W} (h : S[i]? = some (.lst ws)) : vTuple [.ref i] S Q = Q (.tup ws) S := ex_seq (p := fun us => Q (.tup us) S) (seqOf_ref h)
theorem e_append {w : DL.W} {ws : List DL.W} (h : S[i]? = some (.lst ws)) : vAppend (.ref i) [w] S Q = (ws.length < sizeLine ∧ Q .non (S.set i (.lst (ws ++ [w])))) := by
  show (∃ zs, S[i]? = some (.lst zs) ∧ zs.length < sizeLine ∧ Q .non (S.set i (.lst (zs ++ [w])))) = _
  rw [h]
  exact propext ⟨fun ⟨ws', e, q⟩ => by cases e; exact q, fun q => ⟨ws, rfl, q⟩⟩
theorem e_pop0 {w : DL.W} {ws : List DL.W} (h : S[i]? = some (.lst (ws ++ [w]))) : vPop0 (.ref i) [] S Q = Q w (S.set i (.lst ws)) := by
  show (∃ zs y, S[i]? = some (.lst zs) ∧ zs[zs.length - 1]? = some y ∧ Q y (S.set i (.lst zs.dropLast))) = _
  rw [h]
  have e1 : (ws ++ [w])[(ws ++ [w]).length - 1]? = some w := by simp
  exact propext ⟨fun ⟨zs, y, e, e2, q⟩ => by cases e; rw [e1] at e2; cases e2; rw [List.dropLast_concat] at q; exact q, fun q => ⟨ws ++ [w], w, rfl, e1, by rw [List.dropLast_concat]; exact q⟩⟩
theorem e_tyL {ws : List DL.W} (h : S[i]? = some (.lst ws)) : vTy "list" (.ref i) S = True := by
  refine eq_true ?_
  exact .inl ⟨rfl, ws, h⟩
theorem e_tyS {z : Str} : vTy "str" (.str z) S = True := eq_true rfl
theorem e_truL {ws : List DL.W} {q : Bool → Prop} (h : S[i]? = some (.lst ws)) : vTru (.ref i) S q = q (!ws.isEmpty) := by
  show ((∃ ws, S[i]? = some (.lst ws) ∧ q (!ws.isEmpty)) ∨ ∃ kvs, S[i]? = some (.dk kvs) ∧ q (!kvs.isEmpty)) = _
  rw [h]
  exact propext ⟨fun o => o.elim (fun ⟨ws', e, q⟩ => by cases e; exact q) (fun ⟨_, e, _⟩ => by cases e), fun q => .inl ⟨ws, rfl, q⟩⟩
theorem e_truT {ws : List DL.W} {q : Bool → Prop} : vTru (.tup ws) S q = q (!ws.isEmpty) := rfl
theorem e_truB {b : Bool} {q : Bool → Prop} : vTru (.bl b) S q = q b := rfl
theorem e_truI {a : Int} {q : Bool → Prop} : vTru (.int a) S q = q (a != 0) := rfl
theorem e_truS {z : Str} {q : Bool → Prop} : vTru (.str z) S q = (z.length ≤ sizeLine ∧ q ((z.length : Int) != 0)) := rfl
theorem e_truN {q : Bool → Prop} : vTru .non S q = q false := rfl
theorem e_seqT {ws : List DL.W} {q : List DL.W → (Sto → Prop) → Sto → Prop} : vSeqI (.tup ws) S q = q ws (fun _ => True) S := rfl
theorem e_seqLit {ws : List DL.W} {q : List DL.W → (Sto → Prop) → Sto → Prop} : vSeqI (.lit ws) S q = q ws (fun _ => True) S := rfl
theorem e_seqL {ws : List DL.W} {q : List DL.W → (Sto → Prop) → Sto → Prop} (h : S[i]? = some (.lst ws)) : vSeqI (.ref i) S q = q ws (fun S' => S'[i]? = some (.lst ws)) S := by
  show (∃ ws, S[i]? = some (.lst ws) ∧ q ws (fun S' => S'[i]? = some (.lst ws)) S) = _
  rw [h]
  exact propext ⟨fun ⟨ws', e, q⟩ => by cases e; exact q, fun q => ⟨ws, rfl, q⟩⟩
theorem e_in {n : Bool} {x : DL.W} {ws : List DL.W} (h : S[i]? = some (.lst ws)) : vIn n x (.ref i) S Q = (flW x = true ∧ ws.all flW = true ∧ Q (.bl (n ^^ inW x ws)) S) := ex_seq (p := fun us => flW x = true ∧ us.all flW = true ∧ Q (.bl (n ^^ inW x us)) S) (seqOf_ref h)
theorem e_inT {n : Bool} {x : DL.W} {ws : List DL.W} : vIn n x (.tup ws) S Q = (flW x = true ∧ ws.all flW = true ∧ Q (.bl (n ^^ inW x ws)) S) := ex_seq (p := fun us => flW x = true ∧ us.all flW = true ∧ Q (.bl (n ^^ inW x us)) S) rfl
theorem e_isi {w : DL.W} {n t : String} {b : Bool} (h : tyW S w = some t) (h' : kitB t n = some b) : vIsi [w, .raw (.ty n)] S Q = Q (.bl b) S := by
  show (∃ t b, tyW S w = some t ∧ kitB t n = some b ∧ Q (.bl b) S) = _
  rw [h]
  exact propext ⟨fun ⟨t', b', e, e2, q⟩ => by cases e; rw [h'] at e2; cases e2; exact q, fun q => ⟨t, b, rfl, h', q⟩⟩
end
/-! places -/
theorem atI_0 {α : Type} {x : α} {xs : List α} : atI (x :: xs) 0 = some x := atI_nat (j := 0) rfl
theorem atI_1 {α : Type} {x y : α} {xs : List α} : atI (x :: y :: xs) 1 = some y := atI_nat (j := 1) rfl
theorem atI_2 {α : Type} {x y z : α} {xs : List α} : atI (x :: y :: z :: xs) 2 = some z := atI_nat (j := 2) rfl
theorem atI_3 {α : Type} {x y z u : α} {xs : List α} : atI (x :: y :: z :: u :: xs) 3 = some u := atI_nat (j := 3) rfl
theorem ixN_nat {n j : Nat} (h : j < n) : ixN n (j : Int) = some j := by
  unfold ixN
  rw [if_pos (Int.natCast_nonneg j), if_pos (by omega)]
  rfl
theorem ixN_last {n : Nat} : ixN (n + 1) (-1) = some n := by
  unfold ixN
  rw [if_neg (by decide), if_pos (by omega)]
  congr 1
  omega
theorem ixN_0 {n : Nat} : ixN (n + 1) 0 = some 0 := ixN_nat (j := 0) (by omega)
theorem ixN_1 {n : Nat} : ixN (n + 1 + 1) 1 = some 1 := ixN_nat (j := 1) (by omega)
theorem ixN_11 : ixN (1 + 1) 1 = some 1 := ixN_nat (j := 1) (by omega)
theorem atI_end {α : Type} {xs : List α} {v : α} : atI (xs ++ [v]) (-1) = some v := atI_last xs v
theorem set_end {α : Type} {xs : List α} {v w : α} {n : Nat} (h : n = xs.length) : (xs ++ [v]).set n w = xs ++ [w] := by
  rw [h, List.set_append_right _ _ (Nat.le_refl _), Nat.sub_self]
  rfl
theorem closed_iff {S : Sto} : Closed S ↔ ∀ o ∈ S, o.bnd S.length = true := by
  constructor
  · intro h o ho
    obtain ⟨i, hi, e⟩ := List.mem_iff_getElem.mp ho
    exact h i o (by rw [List.getElem?_eq_getElem hi, e])
  · intro h i o ho
    exact h o (List.mem_of_getElem? ho)
theorem bndL_all (n : Nat) : ∀ ws : List DL.W, W.bndL n ws = ws.all (W.bnd n)
  | [] => rfl
  | w :: ws => by
    show (W.bnd n w && W.bndL n ws) = _
    rw [bndL_all n ws]
    rfl
theorem bndL_ints (n : Nat) (is : List Int) : W.bndL n (is.map DL.W.int) = true := by
  rw [bndL_all, List.all_map]
  exact List.all_eq_true.mpr fun _ _ => rfl
theorem bndL_strs (n : Nat) (is : List Str) : W.bndL n (is.map DL.W.str) = true := by
  rw [bndL_all, List.all_map]
  exact List.all_eq_true.mpr fun _ _ => rfl
mutual
theorem pure_bnd (n : Nat) : ∀ w : DL.W, w.pure = true → w.bnd n = true
  | .non, _ => rfl
  | .bl b, _ => rfl
  | .int i, _ => rfl
  | .str x, _ => rfl
  | .raw v, _ => rfl
  | .ref i, h => Bool.noConfusion (show false = true from h)
  | .tup ws, h => by
    show W.bndL n ws = true
    exact pureL_bnd n ws h
  | .lit ws, h => by
    show W.bndL n ws = true
    exact pureL_bnd n ws h
theorem pureL_bnd (n : Nat) : ∀ ws : List DL.W, W.pureL ws = true → W.bndL n ws = true
  | [], _ => rfl
  | w :: ws, h => by
    have b : (w.pure && W.pureL ws) = true := h
    rw [Bool.and_eq_true] at b
    show (W.bnd n w && W.bndL n ws) = true
    rw [pure_bnd n w b.1, pureL_bnd n ws b.2]
    rfl
end
theorem pureL_all : ∀ ws : List DL.W, W.pureL ws = ws.all W.pure
  | [] => rfl
  | w :: ws => by
    show (w.pure && W.pureL ws) = _
    rw [pureL_all ws]
    rfl
theorem pureL_of {ws : List DL.W} (h : ∀ w ∈ ws, w.pure = true) : W.pureL ws = true := by
  rw [pureL_all]
  exact List.all_eq_true.mpr h
theorem pureL_strs (is : List Str) : W.pureL (is.map DL.W.str) = true := pureL_of fun w h => by
  obtain ⟨a, _, rfl⟩ := List.mem_map.mp h
  rfl
theorem pureL_ints (is : List Int) : W.pureL (is.map DL.W.int) = true := pureL_of fun w h => by
  obtain ⟨a, _, rfl⟩ := List.mem_map.mp h
  rfl
theorem get_app {α : Type} {R L : List α} {k : Nat} : (R ++ L)[R.length + k]? = L[k]? := by
  rw [List.getElem?_append_right (Nat.le_add_right _ _), Nat.add_sub_cancel_left]
theorem get_app0 {α : Type} {R L : List α} : (R ++ L)[R.length]? = L[0]? := get_app (k := 0)
theorem set_app {α : Type} {R L : List α} {k : Nat} {x : α} : (R ++ L).set (R.length + k) x = R ++ L.set k x := by
  rw [List.set_append_right _ _ (Nat.le_add_right _ _), Nat.add_sub_cancel_left]
theorem set_app0 {α : Type} {R L : List α} {x : α} : (R ++ L).set R.length x = R ++ L.set 0 x := set_app (k := 0)
/-- a loop over items, by what holds ahead of each turn -/
theorem forW_inv {g : DG} {b : DS} {still : Sto → Prop} {its : List DL.W} {D : DEnds} {env : Slots} {S : Sto} (I : Nat → Slots → Sto → Prop) (h0 : I 0 env S)
    (hs : ∀ (i : Nat) (x : DL.W) (env : Slots) (S : Sto), its[i]? = some x → I i env S → ∀ N : Slots → Sto → Prop, (∀ e s, I (i + 1) e s → N e s) → still S ∧ g x env S fun env2 S2 => b { D with nx := N, ct := N, bk := D.nx } env2 S2)
    (he : ∀ env S, I its.length env S → still S ∧ D.nx env S) : forW g b still its D env S := by
  have go : ∀ (n i : Nat) (env : Slots) (S : Sto), i + n = its.length → I i env S → forW g b still (its.drop i) D env S := by
    intro n
    induction n with
    | zero =>
      intro i env S hi h
      have hl : its.length ≤ i := by omega
      rw [List.drop_of_length_le hl]
      have e : i = its.length := by omega
      subst e
      exact he env S h
    | succ n ih =>
      intro i env S hi h
      have hl : i < its.length := by omega
      rw [List.drop_eq_getElem_cons hl]
      exact hs i its[i] env S (List.getElem?_eq_getElem hl) h _ fun e s q => ih (i + 1) e s (by omega) q
  exact go its.length 0 env S (by omega) h0
/-- a comprehension, by what holds ahead of each turn of what is made so far and the store -/
theorem compW_inv {g : DG} {tt : DT} {te : DE} {vs : List Nat} {still : Sto → Prop} {env : Slots} {Q : WK} {its : List DL.W} {S : Sto} (I : Nat → List DL.W → Sto → Prop) (h0 : I 0 [] S)
    (hs : ∀ (i : Nat) (x : DL.W) (acc : List DL.W) (S : Sto), its[i]? = some x → I i acc S → ∀ N : List DL.W → Sto → Prop, (∀ a s, I (i + 1) a s → N a s) → still S ∧ g x (wipeW env vs) S fun env2 S2 => tt env2 S2 fun b S3 => if b = true then te env2 S3 fun y S4 => acc.length < sizeLine ∧ N (acc ++ [y]) S4 else N acc S3)
    (he : ∀ acc S, I its.length acc S → still S ∧ Q (.ref S.length) (S ++ [.lst acc])) : compW g tt te vs still env Q its [] S := by
  have go : ∀ (n i : Nat) (acc : List DL.W) (S : Sto), i + n = its.length → I i acc S → compW g tt te vs still env Q (its.drop i) acc S := by
    intro n
    induction n with
    | zero =>
      intro i acc S hi h
      have hl : its.length ≤ i := by omega
      rw [List.drop_of_length_le hl]
      have e : i = its.length := by omega
      subst e
      exact he acc S h
    | succ n ih =>
      intro i acc S hi h
      have hl : i < its.length := by omega
      rw [List.drop_eq_getElem_cons hl]
      exact hs i its[i] acc S (List.getElem?_eq_getElem hl) h (compW g tt te vs still env Q (its.drop (i + 1))) fun a s q => ih (i + 1) a s (by omega) q
  exact go its.length 0 [] S (by omega) h0
/-- a comprehension whose element leaves the store as it is -/
theorem compW_map {α : Type} {enc r : α → DL.W} {ts : List α} {g : DG} {tt : DT} {te : DE} {vs : List Nat} {still : Sto → Prop} {env : Slots} {Q : WK} {S : Sto} (st : still S) (hl : ts.length ≤ sizeLine)
    (h : ∀ t ∈ ts, ∀ (N : List DL.W → Sto → Prop) (acc : List DL.W), acc.length < sizeLine → N (acc ++ [r t]) S → g (enc t) (wipeW env vs) S fun env2 S2 => tt env2 S2 fun b S3 => if b = true then te env2 S3 fun y S4 => acc.length < sizeLine ∧ N (acc ++ [y]) S4 else N acc S3)
    (q : Q (.ref S.length) (S ++ [.lst (ts.map r)])) : compW g tt te vs still env Q (ts.map enc) [] S := by
  refine compW_inv (fun i acc S' => S' = S ∧ acc = (ts.take i).map r) ⟨rfl, rfl⟩ ?_ ?_
  · rintro i x acc S' hx ⟨rfl, rfl⟩ N hN
    rw [List.getElem?_map] at hx
    cases ht : ts[i]? with
    | none =>
      rw [ht] at hx
      cases hx
    | some t =>
      rw [ht] at hx
      have e : enc t = x := Option.some.inj hx
      subst e
      have hi := (List.getElem?_eq_some_iff.mp ht).1
      refine ⟨st, h t (List.mem_of_getElem? ht) N _ (by rw [List.length_map, List.length_take]; omega) (hN _ _ ⟨rfl, ?_⟩)⟩
      rw [List.take_add_one, ht, List.map_append]
      rfl
  · rintro acc S' ⟨rfl, rfl⟩
    rw [List.length_map, List.take_length]
    exact ⟨st, q⟩
mutual
theorem ren_pure (f : List Nat) : ∀ w : DL.W, w.pure = true → w.ren f = w
  | .non, _ => rfl
  | .bl b, _ => rfl
  | .int i, _ => rfl
  | .str x, _ => rfl
  | .raw v, _ => rfl
  | .ref i, h => Bool.noConfusion (show false = true from h)
  | .tup ws, h => by
    show W.tup (W.renL f ws) = _
    rw [renL_pure f ws h]
  | .lit ws, h => by
    show W.lit (W.renL f ws) = _
    rw [renL_pure f ws h]
theorem renL_pure (f : List Nat) : ∀ ws : List DL.W, W.pureL ws = true → W.renL f ws = ws
  | [], _ => rfl
  | w :: ws, h => by
    have b : (w.pure && W.pureL ws) = true := h
    rw [Bool.and_eq_true] at b
    show w.ren f :: W.renL f ws = _
    rw [ren_pure f w b.1, renL_pure f ws b.2]
end
mutual
theorem ren_ext {f : List Nat} {n : Nat} (hf : ∀ i, i < n → f[i]? = some i) : ∀ w : DL.W, w.bnd n = true → w.ren f = w
  | .non, _ => rfl
  | .bl b, _ => rfl
  | .int i, _ => rfl
  | .str x, _ => rfl
  | .raw v, _ => rfl
  | .ref i, h => by
    have hi : i < n := of_decide_eq_true h
    show W.ref (f.getD i 0) = _
    rw [List.getD_eq_getElem?_getD, hf i hi]
    rfl
  | .tup ws, h => by
    show W.tup (W.renL f ws) = _
    rw [renL_ext hf ws h]
  | .lit ws, h => by
    show W.lit (W.renL f ws) = _
    rw [renL_ext hf ws h]
theorem renL_ext {f : List Nat} {n : Nat} (hf : ∀ i, i < n → f[i]? = some i) : ∀ ws : List DL.W, W.bndL n ws = true → W.renL f ws = ws
  | [], _ => rfl
  | w :: ws, h => by
    have b : (W.bnd n w && W.bndL n ws) = true := h
    rw [Bool.and_eq_true] at b
    show w.ren f :: W.renL f ws = _
    rw [ren_ext hf w b.1, renL_ext hf ws b.2]
end
theorem O_ren_ext {f : List Nat} {n : Nat} (hf : ∀ i, i < n → f[i]? = some i) : ∀ o : O, o.bnd n = true → o.ren f = o
  | .lst ws, b => by
    show O.lst _ = _
    rw [renL_ext hf ws b]
  | .dk kvs, b => by
    have go : ∀ kvs : List (Key × DL.W), W.bndL n (kvs.map (·.2)) = true → (kvs.map fun kv => (kv.1, kv.2.ren f)) = kvs := by
      intro kvs
      induction kvs with
      | nil => intro _; rfl
      | cons kv r ih =>
        intro b
        have b' : (W.bnd n kv.2 && W.bndL n (r.map (·.2))) = true := b
        rw [Bool.and_eq_true] at b'
        rw [List.map_cons, ih b'.2, DL.ren_ext hf _ b'.1]
    show O.dk _ = _
    rw [go kvs b]
mutual
theorem bnd_mono {n m : Nat} (h : n ≤ m) : ∀ w : DL.W, w.bnd n = true → w.bnd m = true
  | .non, _ => rfl
  | .bl b, _ => rfl
  | .int i, _ => rfl
  | .str x, _ => rfl
  | .raw v, _ => rfl
  | .ref i, b => decide_eq_true (Nat.lt_of_lt_of_le (of_decide_eq_true b) h)
  | .tup ws, b => by
    show W.bndL m ws = true
    exact bndL_mono h ws b
  | .lit ws, b => by
    show W.bndL m ws = true
    exact bndL_mono h ws b
theorem bndL_mono {n m : Nat} (h : n ≤ m) : ∀ ws : List DL.W, W.bndL n ws = true → W.bndL m ws = true
  | [], _ => rfl
  | w :: ws, b => by
    have b' : (W.bnd n w && W.bndL n ws) = true := b
    rw [Bool.and_eq_true] at b'
    show (W.bnd m w && W.bndL m ws) = true
    rw [bnd_mono h w b'.1, bndL_mono h ws b'.2]
    rfl
end
theorem O_bnd_mono {n m : Nat} (h : n ≤ m) : ∀ o : O, o.bnd n = true → o.bnd m = true
  | .lst ws, b => bndL_mono h ws b
  | .dk kvs, b => bndL_mono h _ b
/-- a new list of pure items is handed back, all else that is new is forgotten -/
theorem Ends0.last {n : Nat} {Q : WK} {S T : Sto} {k : Nat} {ws : List DL.W} (hn : n ≤ S.length) (cl : Closed S) (hk : T[k]? = some (.lst ws)) (hp : W.pureL ws = true) (q : Q (.ref S.length) (S ++ [.lst ws])) : Ends0 n Q (.ref (S.length + k)) (S ++ T) := by
  have hf : ∀ i, i < S.length → (List.range S.length ++ [S.length + k])[i]? = some i := fun i hi => by
    rw [List.getElem?_append_left (by rw [List.length_range]; exact hi)]
    exact List.getElem?_range hi
  have hlast : (List.range S.length ++ [S.length + k])[S.length]? = some (S.length + k) := by
    have z := get_app0 (R := List.range S.length) (L := [S.length + k])
    rw [List.length_range] at z
    exact z
  refine ⟨List.range S.length ++ [S.length + k], S ++ [.lst ws], .ref S.length, by simp, fun i hi => hf i (by omega), ?_, fun i o ho => ?_, ?_, ?_, q⟩
  · rw [List.nodup_append]
    refine ⟨List.nodup_range, List.nodup_cons.mpr ⟨List.not_mem_nil, List.nodup_nil⟩, fun a ha b hb => ?_⟩
    rw [List.mem_singleton.mp hb]
    have := List.mem_range.mp ha
    omega
  · have hlen : (List.range S.length ++ [S.length + k]).length = S.length + 1 := by simp
    rw [hlen]
    by_cases hi : i < S.length
    · rw [List.getElem?_append_left hi] at ho
      have b := cl i o ho
      refine ⟨O_bnd_mono (Nat.le_succ _) o b, i, hf i hi, ?_⟩
      rw [List.getElem?_append_left hi, ho, O_ren_ext hf o b]
    · have e : i = S.length := by
        have := (List.getElem?_eq_some_iff.mp ho).1
        rw [List.length_append] at this
        simp at this
        omega
      subst e
      rw [get_app0] at ho
      have e2 : O.lst ws = o := Option.some.inj ho
      subst e2
      refine ⟨pureL_bnd _ ws hp, S.length + k, hlast, ?_⟩
      rw [get_app, hk]
      show some (O.lst ws) = some (O.lst (W.renL _ ws))
      rw [renL_pure _ ws hp]
  · show W.ref _ = W.ref (List.getD _ _ _)
    rw [List.getD_eq_getElem?_getD, hlast]
    rfl
  · refine decide_eq_true ?_
    rw [List.length_append, List.length_range]
    exact Nat.lt_succ_self _
theorem e_join {S : Sto} {Q : WK} {a : Str} {i : Nat} {ys : List Str} (h : S[i]? = some (.lst (ys.map W.str))) (hz : (ys.map (·.length)).sum + ys.length * a.length ≤ 16777216) (q : Q (.str (Txt.join a ys)) S) : vJoin (.str a) [.ref i] S Q :=
  ⟨ys, seqOf_ref h, hz, q⟩
theorem tyW_L {S : Sto} {i : Nat} {ws : List DL.W} (h : S[i]? = some (.lst ws)) : tyW S (.ref i) = some "list" := by simp only [tyW, h]
theorem tyW_S {S : Sto} {z : Str} : tyW S (.str z) = some "str" := rfl
theorem tyW_T {S : Sto} {z : List DL.W} : tyW S (.tup z) = some "tuple" := rfl
theorem tyW_I {S : Sto} {z : Int} : tyW S (.int z) = some "int" := rfl
theorem tyW_B {S : Sto} {z : Bool} : tyW S (.bl z) = some "bool" := rfl
theorem cut_to {ws : List DL.W} {k : Nat} : cutW ws none (some (k : Int)) = ws.take k := by
  unfold cutW
  rw [HT.sIx_none, HT.sIx_nat, List.drop_zero, Nat.sub_zero]
  by_cases h : k ≤ ws.length
  · rw [Nat.min_eq_left h]
  · rw [Nat.min_eq_right (by omega), List.take_length, List.take_of_length_le (by omega)]
theorem cut_from {ws : List DL.W} {k : Nat} : cutW ws (some (k : Int)) none = ws.drop k := by
  unfold cutW
  rw [HT.sIx_none, HT.sIx_nat]
  by_cases h : k ≤ ws.length
  · rw [Nat.min_eq_left h]
    exact List.take_of_length_le (by rw [List.length_drop]; omega)
  · rw [Nat.min_eq_right (by omega), List.drop_length, List.drop_of_length_le (by omega), List.take_nil]
theorem cut_to1 {w : DL.W} {ws : List DL.W} : cutW (w :: ws) none (some 1) = [w] := cut_to (k := 1)
theorem cut_to2 {w u : DL.W} {ws : List DL.W} : cutW (w :: u :: ws) none (some 2) = [w, u] := cut_to (k := 2)
theorem cut_from1 {w : DL.W} {ws : List DL.W} : cutW (w :: ws) (some 1) none = ws := cut_from (k := 1)
theorem wipeW_nil {env : Slots} : wipeW env [] = env := rfl
theorem wipeW_cons {env : Slots} {v : Nat} {vs : List Nat} : wipeW env (v :: vs) = (wipeW env vs).set v none := rfl
theorem kit_ll : kitB "list" "list" = some true := by decide +kernel
theorem kit_ss : kitB "str" "str" = some true := by decide +kernel
theorem kit_tt : kitB "tuple" "tuple" = some true := by decide +kernel
theorem kit_ii : kitB "int" "int" = some true := by decide +kernel
theorem kit_bb : kitB "bool" "bool" = some true := by decide +kernel
theorem kit_bi : kitB "bool" "int" = some true := by decide +kernel
theorem kit_ib : kitB "int" "bool" = some false := by decide +kernel
theorem kit_si : kitB "str" "int" = some false := by decide +kernel
theorem kit_is : kitB "int" "str" = some false := by decide +kernel
end DL

/-! k92: each def's slots, what it denotes, its derivation (printed by gen.py). -/
namespace K92
open PySem PySem.Spec PyProof.Rows L2 DL
def topS (i : Nat) : Stmt := PySem.Challenge.pw_throughdoors_k92_tables_in_lines.main.body.getD i (.Pass ⟨0, 0, 0, 0⟩)
structure Txt (mg : Str → Option Value) : Prop where
  z_str : mg "str" = none
  z_abs : mg "abs" = none
  z_int : mg "int" = none
  z_range : mg "range" = none
  z_list : mg "list" = none
  z_len : mg "len" = none
  z_tuple : mg "tuple" = none
  z_sorted : mg "sorted" = none
  z_isinstance : mg "isinstance" = none
/-! ### terms_line -/
abbrev s_terms_line : Stmt := topS 1
abbrev N_terms_line : List Str := ["terms", "term"]
theorem sc_terms_line : FnScope N_terms_line ["terms"] (defScope s_terms_line) := ⟨rfl, rfl, rfl, by decide +kernel, rfl, by decide +kernel, by decide +kernel⟩
def d_terms_line : DS :=
(dSeq (dIfS (dNotT (dTru (dVar 0)))
(dRet (dC (.str (Str.ofString "yes"))))
dNext)
(dRet (dBM "str" vJoin (dC (.str (Str.ofString " "))) (aCons (dComp (iSeq (dVar 0)) (gNm 1) dYes (dCB vStrOf (aCons (dVar 1) aNil)) [1]) aNil))))
/-! ### answer_lines -/
abbrev s_answer_lines : Stmt := topS 2
abbrev N_answer_lines : List Str := ["rows", "row"]
theorem sc_answer_lines : FnScope N_answer_lines ["rows"] (defScope s_answer_lines) := ⟨rfl, rfl, rfl, by decide +kernel, rfl, by decide +kernel, by decide +kernel⟩
def d_answer_lines (F_terms_line : DSpec) : DS :=
(dRet (dComp (iSeq (dVar 0)) (gNm 1) dYes (dCall F_terms_line (aCons (dVar 1) aNil)) [1]))
/-! ### answer_table -/
abbrev s_answer_table : Stmt := topS 3
abbrev N_answer_table : List Str := ["question", "rows"]
theorem sc_answer_table : FnScope N_answer_table ["question", "rows"] (defScope s_answer_table) := ⟨rfl, rfl, rfl, by decide +kernel, rfl, by decide +kernel, by decide +kernel⟩
def d_answer_table (F_terms_line : DSpec) (F_answer_lines : DSpec) : DS :=
(dRet (dOp vAdd (dLst (aCons (dCall F_terms_line (aCons (dOp vIx (dOp vIx (dOp vIx (dVar 0) (dC (.int 1))) (dC (.int 0))) (dC (.int 0))) aNil)) (aCons (dC (.str (Str.ofString "--"))) aNil))) (dCall F_answer_lines (aCons (dVar 1) aNil))))
/-! ### door_table -/
abbrev s_door_table : Stmt := topS 4
abbrev N_door_table : List Str := ["house", "lines", "name", "table", "told", "kind", "column"]
theorem sc_door_table : FnScope N_door_table ["house"] (defScope s_door_table) := ⟨rfl, rfl, rfl, by decide +kernel, rfl, by decide +kernel, by decide +kernel⟩
def d_door_table : DS :=
(dSeq (dAsg (dLst aNil) (gNm 1))
(dSeq (dFor (iSeq (dOp vIx (dVar 0) (dC (.int 2)))) (gTp 4 (gC (gNm 2) (gC (gNm 3) (gC (gNm 4) (gC (gNm 5) gN0)))))
(dDrop (dBM "list" vAppend (dVar 1) (aCons (dBM "str" vJoin (dC (.str (Str.ofString " "))) (aCons (dOp vAdd (dLst (aCons (dVar 2) (aCons (dVar 5) (aCons (dVar 3) aNil)))) (dComp (iSeq (dVar 4)) (gNm 6) dYes (dCB vStrOf (aCons (dVar 6) aNil)) [6])) aNil)) aNil))))
(dRet (dVar 1))))
/-! ### lot_lines -/
abbrev s_lot_lines : Stmt := topS 5
abbrev N_lot_lines : List Str := ["lots", "lot"]
theorem sc_lot_lines : FnScope N_lot_lines ["lots"] (defScope s_lot_lines) := ⟨rfl, rfl, rfl, by decide +kernel, rfl, by decide +kernel, by decide +kernel⟩
def d_lot_lines : DS :=
(dRet (dComp (iSeq (dVar 0)) (gNm 1) dYes (dIf (dTru (dVar 1)) (dBM "str" vJoin (dC (.str (Str.ofString " "))) (aCons (dVar 1) aNil)) (dC (.str (Str.ofString "nothing")))) [1]))
/-! ### _law_state -/
abbrev s_law_state : Stmt := topS 7
abbrev N_law_state : List Str := ["script", "cells", "seed", "cell", "number"]
theorem sc_law_state : FnScope N_law_state ["script"] (defScope s_law_state) := ⟨rfl, rfl, rfl, by decide +kernel, rfl, by decide +kernel, by decide +kernel⟩
def d_law_state : DS :=
(dSeq (dAsg (dLst aNil) (gNm 1))
(dSeq (dAsg (dC (.int 9203)) (gNm 2))
(dSeq (dFor (iSeq (dVar 0)) (gNm 3)
(dSeq (dAsg (dCB (vI1 fun i => .int (if i < 0 then -i else i)) (aCons (dCB vIntOf (aCons (dVar 3) aNil)) aNil)) (gNm 4))
(dSeq (dAsg (dOp vMod (dCB vIntOf (aCons (dOp vAdd (dOp vAdd (dOp vMul (dVar 2) (dC (.int 7664345821815920749))) (dVar 4)) (dC (.int 4354685564936845))) aNil)) (dC (.int 2305843009213693951))) (gNm 2))
(dIfS (dB (dOp vGe (dVar 4) (dOp vPow (dC (.int 10)) (dC (.int 18)))))
(dAsg (dOp vAdd (dLst (aCons (dVar 4) aNil)) (dVar 1)) (gNm 1))
dNext))))
(dRet (dLst (aCons (dVar 1) (aCons (dOp vAdd (dVar 2) (dC (.int 1))) aNil)))))))
/-! ### _law_draw -/
abbrev s_law_draw : Stmt := topS 8
abbrev N_law_draw : List Str := ["state", "many", "cells", "cell", "word"]
theorem sc_law_draw : FnScope N_law_draw ["state", "many"] (defScope s_law_draw) := ⟨rfl, rfl, rfl, by decide +kernel, rfl, by decide +kernel, by decide +kernel⟩
def d_law_draw : DS :=
(dSeq (dAsg (dOp vIx (dVar 0) (dC (.int 0))) (gNm 2))
(dSeq (dIfS (dTru (dVar 2))
(dSeq (dAsg (dOp vIx (dVar 2) (dUn vNeg (dC (.int 1)))) (gNm 3))
(dSeq (dIfS (dB (dOp vLt (dVar 3) (dVar 1)))
(dDrop (dBM0 "list" vPop0 (dVar 2)))
(dAsg (dOp vDiv (dVar 3) (dVar 1)) (gSb (dVar 2) (dUn vNeg (dC (.int 1))) vSet)))
(dRet (dOp vMod (dCB vIntOf (aCons (dVar 3) aNil)) (dVar 1)))))
dNext)
(dSeq (dAsg (dOp vMod (dCB vIntOf (aCons (dOp vAdd (dOp vMul (dOp vIx (dVar 0) (dC (.int 1))) (dC (.int 2685821657736338717))) (dC (.int 6135914223466881))) aNil)) (dC (.int 2305843009213693951))) (gNm 4))
(dSeq (dAsg (dVar 4) (gSb (dVar 0) (dC (.int 1)) vSet))
(dRet (dOp vMod (dCB vIntOf (aCons (dOp vAdd (dOp vDiv (dOp vMul (dVar 4) (dVar 4)) (dC (.int 262144))) (dOp vDiv (dVar 4) (dC (.int 103)))) aNil)) (dVar 1)))))))
/-! ### _law_spelled -/
abbrev s_law_spelled : Stmt := topS 9
abbrev N_law_spelled : List Str := ["number", "letters", "signs", "name", "rest"]
theorem sc_law_spelled : FnScope N_law_spelled ["number"] (defScope s_law_spelled) := ⟨rfl, rfl, rfl, by decide +kernel, rfl, by decide +kernel, by decide +kernel⟩
def d_law_spelled : DS :=
(dSeq (dAsg (dC (.str (Str.ofString "abcdefghijklmnopqrstuvwxyz"))) (gNm 1))
(dSeq (dAsg (dC (.str (Str.ofString "abcdefghijklmnopqrstuvwxyz0123456789"))) (gNm 2))
(dSeq (dAsg (dOp vIx (dVar 1) (dOp vMod (dCB vIntOf (aCons (dVar 0) aNil)) (dC (.int 26)))) (gNm 3))
(dSeq (dAsg (dOp vDiv (dVar 0) (dC (.int 26))) (gNm 4))
(dSeq (dWhile (dB (dOp vGt (dVar 4) (dC (.int 0))))
(dSeq (dAsg (dOp vAdd (dVar 3) (dOp vIx (dVar 2) (dOp vMod (dCB vIntOf (aCons (dVar 4) aNil)) (dC (.int 36))))) (gNm 3))
(dAsg (dOp vDiv (dVar 4) (dC (.int 36))) (gNm 4))))
(dRet (dVar 3)))))))
/-! ### _law_name -/
abbrev s_law_name : Stmt := topS 10
abbrev N_law_name : List Str := ["state", "taken", "many", "lap", "number", "name"]
theorem sc_law_name : FnScope N_law_name ["state", "taken"] (defScope s_law_name) := ⟨rfl, rfl, rfl, by decide +kernel, rfl, by decide +kernel, by decide +kernel⟩
def d_law_name (F_law_draw : DSpec) (F_law_spelled : DSpec) : DS :=
(dSeq (dAsg (dC (.int 26)) (gNm 2))
(dSeq (dFor (iRng1 (aCons (dCall F_law_draw (aCons (dVar 0) (aCons (dC (.int 8)) aNil))) aNil)) (gNm 3)
(dAsg (dOp vMul (dVar 2) (dC (.int 36))) (gNm 2)))
(dSeq (dAsg (dCall F_law_draw (aCons (dVar 0) (aCons (dVar 2) aNil))) (gNm 4))
(dSeq (dAsg (dCall F_law_spelled (aCons (dVar 4) aNil)) (gNm 5))
(dSeq (dWhile (dB (dOp (vIn false) (dVar 5) (dVar 1)))
(dSeq (dAsg (dOp vMod (dCB vIntOf (aCons (dOp vAdd (dVar 4) (dC (.int 1))) aNil)) (dC (.int 2037468266496))) (gNm 4))
(dAsg (dCall F_law_spelled (aCons (dVar 4) aNil)) (gNm 5))))
(dSeq (dDrop (dBM "list" vAppend (dVar 1) (aCons (dVar 5) aNil)))
(dRet (dVar 5))))))))
/-! ### _law_value -/
abbrev s_law_value : Stmt := topS 11
abbrev N_law_value : List Str := ["state", "pick"]
theorem sc_law_value : FnScope N_law_value ["state"] (defScope s_law_value) := ⟨rfl, rfl, rfl, by decide +kernel, rfl, by decide +kernel, by decide +kernel⟩
def d_law_value (F_law_draw : DSpec) : DS :=
(dSeq (dAsg (dCall F_law_draw (aCons (dVar 0) (aCons (dC (.int 3)) aNil))) (gNm 1))
(dSeq (dIfS (dB (dOp vEq (dVar 1) (dC (.int 0))))
(dRet (dCall F_law_draw (aCons (dVar 0) (aCons (dC (.int 10)) aNil))))
dNext)
(dSeq (dIfS (dB (dOp vEq (dVar 1) (dC (.int 1))))
(dRet (dOp vSub (dOp vPow (dC (.int 10)) (dC (.int 12))) (dCall F_law_draw (aCons (dVar 0) (aCons (dC (.int 3)) aNil)))))
dNext)
(dRet (dCall F_law_draw (aCons (dVar 0) (aCons (dOp vAdd (dOp vPow (dC (.int 10)) (dC (.int 12))) (dC (.int 1))) aNil)))))))
/-! ### _law_shuffled -/
abbrev s_law_shuffled : Stmt := topS 12
abbrev N_law_shuffled : List Str := ["state", "rows", "left", "mixed"]
theorem sc_law_shuffled : FnScope N_law_shuffled ["state", "rows"] (defScope s_law_shuffled) := ⟨rfl, rfl, rfl, by decide +kernel, rfl, by decide +kernel, by decide +kernel⟩
def d_law_shuffled (F_law_draw : DSpec) : DS :=
(dSeq (dAsg (dCB vList (aCons (dVar 1) aNil)) (gNm 2))
(dSeq (dAsg (dLst aNil) (gNm 3))
(dSeq (dWhile (dTru (dVar 2))
(dDrop (dBM "list" vAppend (dVar 3) (aCons (dBM "list" vPop1 (dVar 2) (aCons (dCall F_law_draw (aCons (dVar 0) (aCons (dCB vLen (aCons (dVar 2) aNil)) aNil))) aNil)) aNil))))
(dRet (dVar 3)))))
/-! ### _law_some -/
abbrev s_law_some : Stmt := topS 13
abbrev N_law_some : List Str := ["state", "rows", "row"]
theorem sc_law_some : FnScope N_law_some ["state", "rows"] (defScope s_law_some) := ⟨rfl, rfl, rfl, by decide +kernel, rfl, by decide +kernel, by decide +kernel⟩
def d_law_some (F_law_draw : DSpec) : DS :=
(dRet (dComp (iSeq (dVar 1)) (gNm 2) (dB (dOp vEq (dCall F_law_draw (aCons (dVar 0) (aCons (dC (.int 2)) aNil))) (dC (.int 0)))) (dVar 2) [2]))
/-! ### _law_terms_line -/
abbrev s_law_terms_line : Stmt := topS 14
abbrev N_law_terms_line : List Str := ["terms", "line", "term"]
theorem sc_law_terms_line : FnScope N_law_terms_line ["terms"] (defScope s_law_terms_line) := ⟨rfl, rfl, rfl, by decide +kernel, rfl, by decide +kernel, by decide +kernel⟩
def d_law_terms_line : DS :=
(dSeq (dAsg (dC (.str (Str.ofString ""))) (gNm 1))
(dSeq (dFor (iSeq (dVar 0)) (gNm 2)
(dAsg (dOp vAdd (dOp vAdd (dVar 1) (dC (.str (Str.ofString " ")))) (dCB vStrOf (aCons (dVar 2) aNil))) (gNm 1)))
(dRet (dSl vSl (dVar 1) (oSome (dC (.int 1))) oNone))))
/-! ### _law_answer_lines -/
abbrev s_law_answer_lines : Stmt := topS 15
abbrev N_law_answer_lines : List Str := ["question", "rows", "lines", "terms", "line"]
theorem sc_law_answer_lines : FnScope N_law_answer_lines ["question", "rows"] (defScope s_law_answer_lines) := ⟨rfl, rfl, rfl, by decide +kernel, rfl, by decide +kernel, by decide +kernel⟩
def d_law_answer_lines (F_law_terms_line : DSpec) : DS :=
(dSeq (dAsg (dLst aNil) (gNm 2))
(dSeq (dFor (iSeq (dOp vAdd (dLst (aCons (dOp vIx (dOp vIx (dOp vIx (dVar 0) (dC (.int 1))) (dC (.int 0))) (dC (.int 0))) aNil)) (dCB vList (aCons (dVar 1) aNil)))) (gNm 3)
(dSeq (dAsg (dCall F_law_terms_line (aCons (dVar 3) aNil)) (gNm 4))
(dSeq (dIfS (dNotT (dTru (dVar 3)))
(dAsg (dC (.str (Str.ofString "yes"))) (gNm 4))
dNext)
(dDrop (dBM "list" vAppend (dVar 2) (aCons (dVar 4) aNil))))))
(dRet (dOp vAdd (dOp vAdd (dSl vSl (dVar 2) oNone (oSome (dC (.int 1)))) (dLst (aCons (dC (.str (Str.ofString "--"))) aNil))) (dSl vSl (dVar 2) (oSome (dC (.int 1))) oNone)))))
/-! ### _law_door_lines -/
abbrev s_law_door_lines : Stmt := topS 16
abbrev N_law_door_lines : List Str := ["house", "lines", "name", "table", "told", "kind"]
theorem sc_law_door_lines : FnScope N_law_door_lines ["house"] (defScope s_law_door_lines) := ⟨rfl, rfl, rfl, by decide +kernel, rfl, by decide +kernel, by decide +kernel⟩
def d_law_door_lines (F_law_terms_line : DSpec) : DS :=
(dSeq (dAsg (dLst aNil) (gNm 1))
(dSeq (dFor (iSeq (dOp vIx (dVar 0) (dC (.int 2)))) (gTp 4 (gC (gNm 2) (gC (gNm 3) (gC (gNm 4) (gC (gNm 5) gN0)))))
(dDrop (dBM "list" vAppend (dVar 1) (aCons (dCall F_law_terms_line (aCons (dOp vAdd (dTup (aCons (dVar 2) (aCons (dVar 5) (aCons (dVar 3) aNil)))) (dVar 4)) aNil)) aNil))))
(dRet (dVar 1))))
/-! ### _law_lot_lines -/
abbrev s_law_lot_lines : Stmt := topS 17
abbrev N_law_lot_lines : List Str := ["lots", "lines", "lot", "line"]
theorem sc_law_lot_lines : FnScope N_law_lot_lines ["lots"] (defScope s_law_lot_lines) := ⟨rfl, rfl, rfl, by decide +kernel, rfl, by decide +kernel, by decide +kernel⟩
def d_law_lot_lines (F_law_terms_line : DSpec) : DS :=
(dSeq (dAsg (dLst aNil) (gNm 1))
(dSeq (dFor (iSeq (dVar 0)) (gNm 2)
(dSeq (dAsg (dCall F_law_terms_line (aCons (dVar 2) aNil)) (gNm 3))
(dSeq (dIfS (dNotT (dTru (dVar 2)))
(dAsg (dC (.str (Str.ofString "nothing"))) (gNm 3))
dNext)
(dDrop (dBM "list" vAppend (dVar 1) (aCons (dVar 3) aNil))))))
(dRet (dVar 1))))
/-! ### _law_tables -/
abbrev s_law_tables : Stmt := topS 18
abbrev N_law_tables : List Str := ["state", "names", "at"]
theorem sc_law_tables : FnScope N_law_tables ["state", "names"] (defScope s_law_tables) := ⟨rfl, rfl, rfl, by decide +kernel, rfl, by decide +kernel, by decide +kernel⟩
def d_law_tables (F_law_draw : DSpec) (F_law_name : DSpec) : DS :=
(dRet (dCB vTuple (aCons (dComp (iRng1 (aCons (dOp vAdd (dC (.int 1)) (dCall F_law_draw (aCons (dVar 0) (aCons (dC (.int 8)) aNil)))) aNil)) (gNm 2) dYes (dTup (aCons (dCall F_law_name (aCons (dVar 0) (aCons (dVar 1) aNil))) (aCons (dOp vAdd (dC (.int 1)) (dCall F_law_draw (aCons (dVar 0) (aCons (dC (.int 4)) aNil)))) aNil))) [2]) aNil)))
/-! ### _law_house -/
abbrev s_law_house : Stmt := topS 19
abbrev N_law_house : List Str := ["state", "tables", "callers", "peeped", "doors", "at", "table", "wide", "told", "kind", "column"]
theorem sc_law_house : FnScope N_law_house ["state", "tables"] (defScope s_law_house) := ⟨rfl, rfl, rfl, by decide +kernel, rfl, by decide +kernel, by decide +kernel⟩
def d_law_house (F_law_draw : DSpec) (F_law_name : DSpec) : DS :=
(dSeq (dAsg (dLst aNil) (gNm 2))
(dSeq (dAsg (dLst aNil) (gNm 3))
(dSeq (dAsg (dLst aNil) (gNm 4))
(dSeq (dFor (iRng1 (aCons (dCall F_law_draw (aCons (dVar 0) (aCons (dC (.int 9)) aNil))) aNil)) (gNm 5)
(dSeq (dAsg (dOp vIx (dVar 1) (dCall F_law_draw (aCons (dVar 0) (aCons (dCB vLen (aCons (dVar 1) aNil)) aNil)))) (gTp 2 (gC (gNm 6) (gC (gNm 7) gN0))))
(dSeq (dAsg (dCB vTuple (aCons (dComp (iRng1 (aCons (dVar 7) aNil)) (gNm 10) (dTru (dCall F_law_draw (aCons (dVar 0) (aCons (dC (.int 2)) aNil)))) (dVar 10) [10]) aNil)) (gNm 8))
(dSeq (dAsg (dC (.str (Str.ofString "all"))) (gNm 9))
(dSeq (dIfS (dAndT (dB (dOp (vIn true) (dVar 6) (dVar 3))) (dB (dOp vEq (dCall F_law_draw (aCons (dVar 0) (aCons (dC (.int 3)) aNil))) (dC (.int 0)))))
(dSeq (dAsg (dC (.str (Str.ofString "one"))) (gNm 9))
(dDrop (dBM "list" vAppend (dVar 3) (aCons (dVar 6) aNil))))
dNext)
(dDrop (dBM "list" vAppend (dVar 4) (aCons (dTup (aCons (dCall F_law_name (aCons (dVar 0) (aCons (dVar 2) aNil))) (aCons (dVar 6) (aCons (dVar 8) (aCons (dVar 9) aNil))))) aNil))))))))
(dRet (dTup (aCons (dVar 1) (aCons (dTup aNil) (aCons (dCB vTuple (aCons (dCB vSorted (aCons (dVar 4) aNil)) aNil)) (aCons (dTup aNil) (aCons (dTup aNil) (aCons (dTup aNil) aNil))))))))))))
/-! ### _law_question -/
abbrev s_law_question : Stmt := topS 20
abbrev N_law_question : List Str := ["state", "tables", "marks", "given", "long", "cases", "at", "own", "rows", "lap", "table", "wide", "terms", "column", "head"]
theorem sc_law_question : FnScope N_law_question ["state", "tables"] (defScope s_law_question) := ⟨rfl, rfl, rfl, by decide +kernel, rfl, by decide +kernel, by decide +kernel⟩
def d_law_question (F_law_draw : DSpec) (F_law_name : DSpec) (F_law_value : DSpec) : DS :=
(dSeq (dAsg (dLst aNil) (gNm 2))
(dSeq (dAsg (dCB vTuple (aCons (dComp (iRng1 (aCons (dCall F_law_draw (aCons (dVar 0) (aCons (dC (.int 3)) aNil))) aNil)) (gNm 6) dYes (dCall F_law_name (aCons (dVar 0) (aCons (dVar 2) aNil))) [6]) aNil)) (gNm 3))
(dSeq (dAsg (dCall F_law_draw (aCons (dVar 0) (aCons (dC (.int 5)) aNil))) (gNm 4))
(dSeq (dAsg (dLst aNil) (gNm 5))
(dSeq (dFor (iRng1 (aCons (dOp vAdd (dC (.int 1)) (dCall F_law_draw (aCons (dVar 0) (aCons (dC (.int 4)) aNil)))) aNil)) (gNm 6)
(dSeq (dAsg (dCB vList (aCons (dVar 3) aNil)) (gNm 7))
(dSeq (dAsg (dLst aNil) (gNm 8))
(dSeq (dFor (iRng1 (aCons (dOp vAdd (dC (.int 1)) (dCall F_law_draw (aCons (dVar 0) (aCons (dC (.int 2)) aNil)))) aNil)) (gNm 9)
(dSeq (dAsg (dOp vIx (dVar 1) (dCall F_law_draw (aCons (dVar 0) (aCons (dCB vLen (aCons (dVar 1) aNil)) aNil)))) (gTp 2 (gC (gNm 10) (gC (gNm 11) gN0))))
(dSeq (dAsg (dLst aNil) (gNm 12))
(dSeq (dFor (iRng1 (aCons (dVar 11) aNil)) (gNm 13)
(dIfS (dB (dOp vEq (dCall F_law_draw (aCons (dVar 0) (aCons (dC (.int 4)) aNil))) (dC (.int 0))))
(dDrop (dBM "list" vAppend (dVar 12) (aCons (dCall F_law_value (aCons (dVar 0) aNil)) aNil)))
(dIfS (dAndT (dTru (dVar 7)) (dB (dOp vEq (dCall F_law_draw (aCons (dVar 0) (aCons (dC (.int 3)) aNil))) (dC (.int 0)))))
(dDrop (dBM "list" vAppend (dVar 12) (aCons (dOp vIx (dVar 7) (dCall F_law_draw (aCons (dVar 0) (aCons (dCB vLen (aCons (dVar 7) aNil)) aNil)))) aNil)))
(dSeq (dDrop (dBM "list" vAppend (dVar 7) (aCons (dCall F_law_name (aCons (dVar 0) (aCons (dVar 2) aNil))) aNil)))
(dDrop (dBM "list" vAppend (dVar 12) (aCons (dOp vIx (dVar 7) (dUn vNeg (dC (.int 1)))) aNil)))))))
(dDrop (dBM "list" vAppend (dVar 8) (aCons (dTup (aCons (dVar 10) (aCons (dCB vTuple (aCons (dVar 12) aNil)) aNil))) aNil)))))))
(dSeq (dAsg (dLst aNil) (gNm 14))
(dSeq (dFor (iRng1 (aCons (dVar 4) aNil)) (gNm 9)
(dIfS (dAndT (dTru (dVar 7)) (dTru (dCall F_law_draw (aCons (dVar 0) (aCons (dC (.int 4)) aNil)))))
(dDrop (dBM "list" vAppend (dVar 14) (aCons (dOp vIx (dVar 7) (dCall F_law_draw (aCons (dVar 0) (aCons (dCB vLen (aCons (dVar 7) aNil)) aNil)))) aNil)))
(dDrop (dBM "list" vAppend (dVar 14) (aCons (dCall F_law_value (aCons (dVar 0) aNil)) aNil)))))
(dDrop (dBM "list" vAppend (dVar 5) (aCons (dTup (aCons (dCB vTuple (aCons (dVar 14) aNil)) (aCons (dCB vTuple (aCons (dVar 8) aNil)) aNil))) aNil)))))))))
(dRet (dTup (aCons (dVar 3) (aCons (dCB vTuple (aCons (dVar 5) aNil)) aNil)))))))))
/-! ### _law_rows -/
abbrev s_law_rows : Stmt := topS 21
abbrev N_law_rows : List Str := ["state", "long", "many", "step", "rows", "at", "lap"]
theorem sc_law_rows : FnScope N_law_rows ["state", "long"] (defScope s_law_rows) := ⟨rfl, rfl, rfl, by decide +kernel, rfl, by decide +kernel, by decide +kernel⟩
def d_law_rows (F_law_draw : DSpec) (F_law_value : DSpec) : DS :=
(dSeq (dAsg (dCall F_law_draw (aCons (dVar 0) (aCons (dC (.int 6)) aNil))) (gNm 2))
(dSeq (dIfS (dB (dOp vEq (dCall F_law_draw (aCons (dVar 0) (aCons (dC (.int 13)) aNil))) (dC (.int 0))))
(dAsg (dOp vSub (dC (.int 300)) (dCall F_law_draw (aCons (dVar 0) (aCons (dC (.int 2)) aNil)))) (gNm 2))
dNext)
(dSeq (dAsg (dCall F_law_value (aCons (dVar 0) aNil)) (gNm 3))
(dSeq (dAsg (dLst aNil) (gNm 4))
(dSeq (dFor (iRng1 (aCons (dVar 2) aNil)) (gNm 5)
(dIfS (dB (dOp vLt (dVar 5) (dC (.int 6))))
(dDrop (dBM "list" vAppend (dVar 4) (aCons (dCB vTuple (aCons (dComp (iRng1 (aCons (dVar 1) aNil)) (gNm 6) dYes (dCall F_law_value (aCons (dVar 0) aNil)) [6]) aNil)) aNil)))
(dDrop (dBM "list" vAppend (dVar 4) (aCons (dCB vTuple (aCons (dComp (iRng1 (aCons (dVar 1) aNil)) (gNm 6) dYes (dOp vMod (dCB vIntOf (aCons (dOp vAdd (dOp vMul (dVar 3) (dOp vAdd (dVar 6) (dC (.int 3)))) (dOp vMul (dVar 5) (dC (.int 7919)))) aNil)) (dC (.int 1000000000001))) [6]) aNil)) aNil)))))
(dRet (dCB vTuple (aCons (dVar 4) aNil))))))))
/-! ### _law_lots -/
abbrev s_law_lots : Stmt := topS 22
abbrev N_law_lots : List Str := ["state", "house", "names", "lots", "at", "door", "name"]
theorem sc_law_lots : FnScope N_law_lots ["state", "house"] (defScope s_law_lots) := ⟨rfl, rfl, rfl, by decide +kernel, rfl, by decide +kernel, by decide +kernel⟩
def d_law_lots (F_law_draw : DSpec) : DS :=
(dSeq (dAsg (dSl vSl (dComp (iSeq (dOp vIx (dVar 1) (dC (.int 2)))) (gNm 5) dYes (dOp vIx (dVar 5) (dC (.int 0))) [5]) oNone (oSome (dC (.int 6)))) (gNm 2))
(dSeq (dAsg (dLst aNil) (gNm 3))
(dSeq (dFor (iRng1 (aCons (dCall F_law_draw (aCons (dVar 0) (aCons (dC (.int 7)) aNil))) aNil)) (gNm 4)
(dDrop (dBM "list" vAppend (dVar 3) (aCons (dCB vTuple (aCons (dCB vSorted (aCons (dComp (iSeq (dVar 2)) (gNm 6) (dTru (dCall F_law_draw (aCons (dVar 0) (aCons (dC (.int 2)) aNil)))) (dVar 6) [6]) aNil)) aNil)) aNil))))
(dRet (dCB vTuple (aCons (dVar 3) aNil))))))
/-! ### _law_lines -/
abbrev s_law_lines : Stmt := topS 23
abbrev N_law_lines : List Str := ["told", "due", "at"]
theorem sc_law_lines : FnScope N_law_lines ["told", "due"] (defScope s_law_lines) := ⟨rfl, rfl, rfl, by decide +kernel, rfl, by decide +kernel, by decide +kernel⟩
def d_law_lines : DS :=
(dSeq (dIfS (dOrT (dNotT (dTru (dCB vIsi (aCons (dVar 0) (aCons (dC (.raw (.ty "list"))) aNil))))) (dB (dOp vNe (dCB vLen (aCons (dVar 0) aNil)) (dCB vLen (aCons (dVar 1) aNil)))))
(dRet (dC (.bl false)))
dNext)
(dSeq (dFor (iRng1 (aCons (dCB vLen (aCons (dVar 1) aNil)) aNil)) (gNm 2)
(dIfS (dOrT (dNotT (dTru (dCB vIsi (aCons (dOp vIx (dVar 0) (dVar 2)) (aCons (dC (.raw (.ty "str"))) aNil))))) (dB (dOp vNe (dOp vIx (dVar 0) (dVar 2)) (dOp vIx (dVar 1) (dVar 2)))))
(dRet (dC (.bl false)))
dNext))
(dRet (dC (.bl true)))))
/-! ### law -/
abbrev s_law : Stmt := topS 24
abbrev N_law : List Str := ["script", "state", "tables", "house", "question", "rows", "lots", "other", "due", "told", "empty", "yes"]
theorem sc_law : FnScope N_law ["script"] (defScope s_law) := ⟨rfl, rfl, rfl, by decide +kernel, rfl, by decide +kernel, by decide +kernel⟩
def d_law (F_law_state : DSpec) (F_law_tables : DSpec) (F_law_house : DSpec) (F_law_question : DSpec) (F_law_rows : DSpec) (F_law_lots : DSpec) (F_law_answer_lines : DSpec) (F_answer_table : DSpec) (F_law_lines : DSpec) (F_law_door_lines : DSpec) (F_door_table : DSpec) (F_law_lot_lines : DSpec) (F_lot_lines : DSpec) : DS :=
(dSeq (dAsg (dCall F_law_state (aCons (dVar 0) aNil)) (gNm 1))
(dSeq (dAsg (dCall F_law_tables (aCons (dVar 1) (aCons (dLst aNil) aNil))) (gNm 2))
(dSeq (dAsg (dCall F_law_house (aCons (dVar 1) (aCons (dVar 2) aNil))) (gNm 3))
(dSeq (dAsg (dCall F_law_question (aCons (dVar 1) (aCons (dVar 2) aNil))) (gNm 4))
(dSeq (dAsg (dCall F_law_rows (aCons (dVar 1) (aCons (dCB vLen (aCons (dOp vIx (dOp vIx (dOp vIx (dVar 4) (dC (.int 1))) (dC (.int 0))) (dC (.int 0))) aNil)) aNil))) (gNm 5))
(dSeq (dAsg (dOp vAdd (dCall F_law_lots (aCons (dVar 1) (aCons (dVar 3) aNil))) (dTup (aCons (dTup aNil) aNil))) (gNm 6))
(dSeq (dAsg (dTup (aCons (dOp vIx (dVar 4) (dC (.int 0))) (aCons (dSl vSl (dOp vIx (dVar 4) (dC (.int 1))) oNone (oSome (dC (.int 1)))) aNil))) (gNm 7))
(dSeq (dAsg (dCall F_law_answer_lines (aCons (dVar 4) (aCons (dVar 5) aNil))) (gNm 8))
(dSeq (dAsg (dCall F_answer_table (aCons (dVar 4) (aCons (dVar 5) aNil))) (gNm 9))
(dSeq (dIfS (dNotT (dTru (dCall F_law_lines (aCons (dVar 9) (aCons (dVar 8) aNil)))))
(dRet (dC (.bl false)))
dNext)
(dSeq (dDrop (dBM "list" vAppend (dVar 9) (aCons (dOp vIx (dVar 8) (dC (.int 0))) aNil)))
(dSeq (dAsg (dC (.str (Str.ofString "spoilt"))) (gSb (dVar 9) (dC (.int 0)) vSet))
(dSeq (dIfS (dNotT (dTru (dCall F_law_lines (aCons (dCallK F_answer_table [1, 0] 0 2 aNil (aCons (dVar 5) (aCons (dVar 7) aNil))) (aCons (dVar 8) aNil)))))
(dRet (dC (.bl false)))
dNext)
(dSeq (dIfS (dNotT (dTru (dCall F_law_lines (aCons (dCall F_answer_table (aCons (dVar 4) (aCons (dTup aNil) aNil))) (aCons (dSl vSl (dVar 8) oNone (oSome (dC (.int 2)))) aNil)))))
(dRet (dC (.bl false)))
dNext)
(dSeq (dAsg (dCall F_law_door_lines (aCons (dVar 3) aNil)) (gNm 8))
(dSeq (dAsg (dCall F_door_table (aCons (dVar 3) aNil)) (gNm 9))
(dSeq (dIfS (dNotT (dTru (dCall F_law_lines (aCons (dVar 9) (aCons (dVar 8) aNil)))))
(dRet (dC (.bl false)))
dNext)
(dSeq (dDrop (dBM "list" vAppend (dVar 9) (aCons (dC (.str (Str.ofString "spoilt"))) aNil)))
(dSeq (dIfS (dNotT (dTru (dCall F_law_lines (aCons (dCallK F_door_table [0] 0 1 aNil (aCons (dVar 3) aNil)) (aCons (dVar 8) aNil)))))
(dRet (dC (.bl false)))
dNext)
(dSeq (dAsg (dTup (aCons (dVar 2) (aCons (dTup aNil) (aCons (dTup aNil) (aCons (dTup aNil) (aCons (dTup aNil) (aCons (dTup aNil) aNil))))))) (gNm 10))
(dSeq (dIfS (dNotT (dTru (dCall F_law_lines (aCons (dCall F_door_table (aCons (dVar 10) aNil)) (aCons (dLst aNil) aNil)))))
(dRet (dC (.bl false)))
dNext)
(dSeq (dAsg (dCall F_law_lot_lines (aCons (dVar 6) aNil)) (gNm 8))
(dSeq (dAsg (dCall F_lot_lines (aCons (dVar 6) aNil)) (gNm 9))
(dSeq (dIfS (dNotT (dTru (dCall F_law_lines (aCons (dVar 9) (aCons (dVar 8) aNil)))))
(dRet (dC (.bl false)))
dNext)
(dSeq (dDrop (dBM0 "list" vPop0 (dVar 9)))
(dSeq (dIfS (dOrT (dNotT (dTru (dCall F_law_lines (aCons (dCallK F_lot_lines [0] 0 1 aNil (aCons (dVar 6) aNil)) (aCons (dVar 8) aNil))))) (dNotT (dTru (dCall F_law_lines (aCons (dCall F_lot_lines (aCons (dTup aNil) aNil)) (aCons (dLst aNil) aNil))))))
(dRet (dC (.bl false)))
dNext)
(dSeq (dAsg (dTup (aCons (dTup aNil) (aCons (dTup (aCons (dTup (aCons (dTup aNil) (aCons (dOp vIx (dOp vIx (dOp vIx (dVar 4) (dC (.int 1))) (dC (.int 0))) (dC (.int 1))) aNil))) aNil)) aNil))) (gNm 11))
(dRet (dCall F_law_lines (aCons (dCall F_answer_table (aCons (dVar 11) (aCons (dTup (aCons (dTup aNil) aNil)) aNil))) (aCons (dLst (aCons (dC (.str (Str.ofString "yes"))) (aCons (dC (.str (Str.ofString "--"))) (aCons (dC (.str (Str.ofString "yes"))) aNil)))) aNil)))))))))))))))))))))))))))))))
theorem KB_answer_table_0_rows_question : KPat "answer_table" s_answer_table ["question", "rows"] 0 ["rows", "question"] [1, 0] := ⟨fun _ _ _ _ _ _ us ws h1 h2 => match us, ws, h1, h2 with | [], [_, _], _, _ => rfl, by simp⟩
theorem KB_door_table_0_house : KPat "door_table" s_door_table ["house"] 0 ["house"] [0] := ⟨fun _ _ _ _ _ _ us ws h1 h2 => match us, ws, h1, h2 with | [], [_], _, _ => rfl, by simp⟩
theorem KB_lot_lines_0_lots : KPat "lot_lines" s_lot_lines ["lots"] 0 ["lots"] [0] := ⟨fun _ _ _ _ _ _ us ws h1 h2 => match us, ws, h1, h2 with | [], [_], _, _ => rfl, by simp⟩
section
variable {P : Program} {w : World} {K : Fg} {mg : Str → Option Value} {base : Heap}
theorem der_terms_line (T : Txt mg) (f : Addr) (cdv : Value) (A : Around) (outer : List PySem.Env) (s : Shared) (H : Hp) (E : XK) (hr : Room 0 (A.deeper (envOfC "terms_line" (defScope s_terms_line) s.heap.objs.size f cdv))) :
  XSs (cxOf CX0 P w K mg base N_terms_line "terms_line" (defScope s_terms_line) f cdv A outer s H E).nox (defBody s_terms_line) (d_terms_line) :=
(xss_cons (xs_if (xt_not (xt_val (xv 0)))
(xss_one (xs_ret xe_str))
xss_nil)
(xss_one (xs_ret (m_join xe_str (xa_cons (xe_comp [("term", 1)] rfl sc_terms_line.nd (xi_seq (xv 0)) (blkOk_by (by kernel_rfl)) (fun _ _ _ _ _ => (xcg_name 1 sc_terms_line.nd)) (fun _ _ _ _ _ => xts_nil) (fun _ _ _ _ _ => (c_str (by rfl) T.z_str (xa_cons (xv 1) xa_nil)))) xa_nil)))))
theorem der_answer_lines (T : Txt mg) {F_terms_line : DSpec} (D_terms_line : TDef P w K mg base 1 "terms_line" s_terms_line ["terms"] F_terms_line) (f : Addr) (cdv : Value) (A : Around) (outer : List PySem.Env) (s : Shared) (H : Hp) (E : XK) (hr : Room 1 (A.deeper (envOfC "answer_lines" (defScope s_answer_lines) s.heap.objs.size f cdv))) :
  XSs (cxOf CX0 P w K mg base N_answer_lines "answer_lines" (defScope s_answer_lines) f cdv A outer s H E).nox (defBody s_answer_lines) (d_answer_lines F_terms_line) :=
(xss_one (xs_ret (xe_comp [("row", 1)] rfl sc_answer_lines.nd (xi_seq (xv 0)) (blkOk_by (by kernel_rfl)) (fun _ _ _ _ _ => (xcg_name 1 sc_answer_lines.nd)) (fun _ _ _ _ _ => xts_nil) (fun _ _ _ _ _ => (c_def D_terms_line hr (xa_cons (xv 1) xa_nil))))))
theorem der_answer_table (T : Txt mg) {F_terms_line : DSpec} {F_answer_lines : DSpec} (D_terms_line : TDef P w K mg base 1 "terms_line" s_terms_line ["terms"] F_terms_line) (D_answer_lines : TDef P w K mg base 2 "answer_lines" s_answer_lines ["rows"] F_answer_lines) (f : Addr) (cdv : Value) (A : Around) (outer : List PySem.Env) (s : Shared) (H : Hp) (E : XK) (hr : Room 2 (A.deeper (envOfC "answer_table" (defScope s_answer_table) s.heap.objs.size f cdv))) :
  XSs (cxOf CX0 P w K mg base N_answer_table "answer_table" (defScope s_answer_table) f cdv A outer s H E).nox (defBody s_answer_table) (d_answer_table F_terms_line F_answer_lines) :=
(xss_one (xs_ret (x_add (xe_lst (xa_cons (c_def D_terms_line hr (xa_cons (x_ix (x_ix (x_ix (xv 0) xe_int) xe_int) xe_int) xa_nil)) (xa_cons xe_str xa_nil))) (c_def D_answer_lines hr (xa_cons (xv 1) xa_nil)))))
theorem der_door_table (T : Txt mg) (f : Addr) (cdv : Value) (A : Around) (outer : List PySem.Env) (s : Shared) (H : Hp) (E : XK) (hr : Room 0 (A.deeper (envOfC "door_table" (defScope s_door_table) s.heap.objs.size f cdv))) :
  XSs (cxOf CX0 P w K mg base N_door_table "door_table" (defScope s_door_table) f cdv A outer s H E).nox (defBody s_door_table) (d_door_table) :=
(xss_cons (xs_set 1 sc_door_table.nd (xe_lst xa_nil))
(xss_cons (xs_for PassesOwn.never rfl (xi_seq (x_ix (xv 0) xe_int)) (xg_tup rfl (xgs_cons (xg_name 2 sc_door_table.nd) (xgs_cons (xg_name 3 sc_door_table.nd) (xgs_cons (xg_name 4 sc_door_table.nd) (xgs_cons (xg_name 5 sc_door_table.nd) xgs_nil)))))
(xss_one (xs_expr (m_append (xv 1) (xa_cons (m_join xe_str (xa_cons (x_add (xe_lst (xa_cons (xv 2) (xa_cons (xv 5) (xa_cons (xv 3) xa_nil)))) (xe_comp [("column", 6)] rfl sc_door_table.nd (xi_seq (xv 4)) (blkOk_by (by kernel_rfl)) (fun _ _ _ _ _ => (xcg_name 6 sc_door_table.nd)) (fun _ _ _ _ _ => xts_nil) (fun _ _ _ _ _ => (c_str (by rfl) T.z_str (xa_cons (xv 6) xa_nil))))) xa_nil)) xa_nil)))))
(xss_one (xs_ret (xv 1)))))
theorem der_lot_lines (T : Txt mg) (f : Addr) (cdv : Value) (A : Around) (outer : List PySem.Env) (s : Shared) (H : Hp) (E : XK) (hr : Room 0 (A.deeper (envOfC "lot_lines" (defScope s_lot_lines) s.heap.objs.size f cdv))) :
  XSs (cxOf CX0 P w K mg base N_lot_lines "lot_lines" (defScope s_lot_lines) f cdv A outer s H E).nox (defBody s_lot_lines) (d_lot_lines) :=
(xss_one (xs_ret (xe_comp [("lot", 1)] rfl sc_lot_lines.nd (xi_seq (xv 0)) (blkOk_by (by kernel_rfl)) (fun _ _ _ _ _ => (xcg_name 1 sc_lot_lines.nd)) (fun _ _ _ _ _ => xts_nil) (fun _ _ _ _ _ => (xe_if (xt_val (xv 1)) (m_join xe_str (xa_cons (xv 1) xa_nil)) xe_str)))))
theorem der_law_state (T : Txt mg) (f : Addr) (cdv : Value) (A : Around) (outer : List PySem.Env) (s : Shared) (H : Hp) (E : XK) (hr : Room 0 (A.deeper (envOfC "_law_state" (defScope s_law_state) s.heap.objs.size f cdv))) :
  XSs (cxOf CX0 P w K mg base N_law_state "_law_state" (defScope s_law_state) f cdv A outer s H E).nox (defBody s_law_state) (d_law_state) :=
(xss_cons (xs_set 1 sc_law_state.nd (xe_lst xa_nil))
(xss_cons (xs_set 2 sc_law_state.nd xe_int)
(xss_cons (xs_for PassesOwn.never rfl (xi_seq (xv 0)) (xg_name 3 sc_law_state.nd)
(xss_cons (xs_set 4 sc_law_state.nd (c_abs (by rfl) T.z_abs (xa_cons (c_int (by rfl) T.z_int (xa_cons (xv 3) xa_nil)) xa_nil)))
(xss_cons (xs_set 2 sc_law_state.nd (x_mod (c_int (by rfl) T.z_int (xa_cons (x_add (x_add (x_mul (xv 2) xe_int) (xv 4)) xe_int) xa_nil)) xe_int))
(xss_one (xs_if (t_ge (xv 4) (x_pow xe_int xe_int))
(xss_one (xs_set 1 sc_law_state.nd (x_add (xe_lst (xa_cons (xv 4) xa_nil)) (xv 1))))
xss_nil)))))
(xss_one (xs_ret (xe_lst (xa_cons (xv 1) (xa_cons (x_add (xv 2) xe_int) xa_nil))))))))
theorem der_law_draw (T : Txt mg) (f : Addr) (cdv : Value) (A : Around) (outer : List PySem.Env) (s : Shared) (H : Hp) (E : XK) (hr : Room 0 (A.deeper (envOfC "_law_draw" (defScope s_law_draw) s.heap.objs.size f cdv))) :
  XSs (cxOf CX0 P w K mg base N_law_draw "_law_draw" (defScope s_law_draw) f cdv A outer s H E).nox (defBody s_law_draw) (d_law_draw) :=
(xss_cons (xs_set 2 sc_law_draw.nd (x_ix (xv 0) xe_int))
(xss_cons (xs_if (xt_val (xv 2))
(xss_cons (xs_set 3 sc_law_draw.nd (x_ix (xv 2) (x_neg xe_int)))
(xss_cons (xs_if (t_lt (xv 3) (xv 1))
(xss_one (xs_expr (m_pop0 (xv 2))))
(xss_one (xs_asg (x_div (xv 3) (xv 1)) (g_sub (xv 2) (x_neg xe_int)))))
(xss_one (xs_ret (x_mod (c_int (by rfl) T.z_int (xa_cons (xv 3) xa_nil)) (xv 1))))))
xss_nil)
(xss_cons (xs_set 4 sc_law_draw.nd (x_mod (c_int (by rfl) T.z_int (xa_cons (x_add (x_mul (x_ix (xv 0) xe_int) xe_int) xe_int) xa_nil)) xe_int))
(xss_cons (xs_asg (xv 4) (g_sub (xv 0) xe_int))
(xss_one (xs_ret (x_mod (c_int (by rfl) T.z_int (xa_cons (x_add (x_div (x_mul (xv 4) (xv 4)) xe_int) (x_div (xv 4) xe_int)) xa_nil)) (xv 1))))))))
theorem der_law_spelled (T : Txt mg) (f : Addr) (cdv : Value) (A : Around) (outer : List PySem.Env) (s : Shared) (H : Hp) (E : XK) (hr : Room 0 (A.deeper (envOfC "_law_spelled" (defScope s_law_spelled) s.heap.objs.size f cdv))) :
  XSs (cxOf CX0 P w K mg base N_law_spelled "_law_spelled" (defScope s_law_spelled) f cdv A outer s H E).nox (defBody s_law_spelled) (d_law_spelled) :=
(xss_cons (xs_set 1 sc_law_spelled.nd xe_str)
(xss_cons (xs_set 2 sc_law_spelled.nd xe_str)
(xss_cons (xs_set 3 sc_law_spelled.nd (x_ix (xv 1) (x_mod (c_int (by rfl) T.z_int (xa_cons (xv 0) xa_nil)) xe_int)))
(xss_cons (xs_set 4 sc_law_spelled.nd (x_div (xv 0) xe_int))
(xss_cons (xs_while PassesOwn.never (t_gt (xv 4) xe_int)
(xss_cons (xs_set 3 sc_law_spelled.nd (x_add (xv 3) (x_ix (xv 2) (x_mod (c_int (by rfl) T.z_int (xa_cons (xv 4) xa_nil)) xe_int))))
(xss_one (xs_set 4 sc_law_spelled.nd (x_div (xv 4) xe_int)))))
(xss_one (xs_ret (xv 3))))))))
theorem der_law_name (T : Txt mg) {F_law_draw : DSpec} {F_law_spelled : DSpec} (D_law_draw : TDef P w K mg base 1 "_law_draw" s_law_draw ["state", "many"] F_law_draw) (D_law_spelled : TDef P w K mg base 1 "_law_spelled" s_law_spelled ["number"] F_law_spelled) (f : Addr) (cdv : Value) (A : Around) (outer : List PySem.Env) (s : Shared) (H : Hp) (E : XK) (hr : Room 1 (A.deeper (envOfC "_law_name" (defScope s_law_name) s.heap.objs.size f cdv))) :
  XSs (cxOf CX0 P w K mg base N_law_name "_law_name" (defScope s_law_name) f cdv A outer s H E).nox (defBody s_law_name) (d_law_name F_law_draw F_law_spelled) :=
(xss_cons (xs_set 2 sc_law_name.nd xe_int)
(xss_cons (xs_for PassesOwn.never rfl (xi_range1 (by rfl) T.z_range (xa_cons (c_def D_law_draw hr (xa_cons (xv 0) (xa_cons xe_int xa_nil))) xa_nil)) (xg_name 3 sc_law_name.nd)
(xss_one (xs_set 2 sc_law_name.nd (x_mul (xv 2) xe_int))))
(xss_cons (xs_set 4 sc_law_name.nd (c_def D_law_draw hr (xa_cons (xv 0) (xa_cons (xv 2) xa_nil))))
(xss_cons (xs_set 5 sc_law_name.nd (c_def D_law_spelled hr (xa_cons (xv 4) xa_nil)))
(xss_cons (xs_while PassesOwn.never (t_in (xv 5) (xv 1))
(xss_cons (xs_set 4 sc_law_name.nd (x_mod (c_int (by rfl) T.z_int (xa_cons (x_add (xv 4) xe_int) xa_nil)) xe_int))
(xss_one (xs_set 5 sc_law_name.nd (c_def D_law_spelled hr (xa_cons (xv 4) xa_nil))))))
(xss_cons (xs_expr (m_append (xv 1) (xa_cons (xv 5) xa_nil)))
(xss_one (xs_ret (xv 5)))))))))
theorem der_law_value (T : Txt mg) {F_law_draw : DSpec} (D_law_draw : TDef P w K mg base 1 "_law_draw" s_law_draw ["state", "many"] F_law_draw) (f : Addr) (cdv : Value) (A : Around) (outer : List PySem.Env) (s : Shared) (H : Hp) (E : XK) (hr : Room 1 (A.deeper (envOfC "_law_value" (defScope s_law_value) s.heap.objs.size f cdv))) :
  XSs (cxOf CX0 P w K mg base N_law_value "_law_value" (defScope s_law_value) f cdv A outer s H E).nox (defBody s_law_value) (d_law_value F_law_draw) :=
(xss_cons (xs_set 1 sc_law_value.nd (c_def D_law_draw hr (xa_cons (xv 0) (xa_cons xe_int xa_nil))))
(xss_cons (xs_if (t_eq hr.units (xv 1) xe_int)
(xss_one (xs_ret (c_def D_law_draw hr (xa_cons (xv 0) (xa_cons xe_int xa_nil)))))
xss_nil)
(xss_cons (xs_if (t_eq hr.units (xv 1) xe_int)
(xss_one (xs_ret (x_sub (x_pow xe_int xe_int) (c_def D_law_draw hr (xa_cons (xv 0) (xa_cons xe_int xa_nil))))))
xss_nil)
(xss_one (xs_ret (c_def D_law_draw hr (xa_cons (xv 0) (xa_cons (x_add (x_pow xe_int xe_int) xe_int) xa_nil))))))))
theorem der_law_shuffled (T : Txt mg) {F_law_draw : DSpec} (D_law_draw : TDef P w K mg base 1 "_law_draw" s_law_draw ["state", "many"] F_law_draw) (f : Addr) (cdv : Value) (A : Around) (outer : List PySem.Env) (s : Shared) (H : Hp) (E : XK) (hr : Room 1 (A.deeper (envOfC "_law_shuffled" (defScope s_law_shuffled) s.heap.objs.size f cdv))) :
  XSs (cxOf CX0 P w K mg base N_law_shuffled "_law_shuffled" (defScope s_law_shuffled) f cdv A outer s H E).nox (defBody s_law_shuffled) (d_law_shuffled F_law_draw) :=
(xss_cons (xs_set 2 sc_law_shuffled.nd (c_list (by rfl) T.z_list (xa_cons (xv 1) xa_nil)))
(xss_cons (xs_set 3 sc_law_shuffled.nd (xe_lst xa_nil))
(xss_cons (xs_while PassesOwn.never (xt_val (xv 2))
(xss_one (xs_expr (m_append (xv 3) (xa_cons (m_pop1 (xv 2) (xa_cons (c_def D_law_draw hr (xa_cons (xv 0) (xa_cons (c_len (by rfl) T.z_len (xa_cons (xv 2) xa_nil)) xa_nil))) xa_nil)) xa_nil)))))
(xss_one (xs_ret (xv 3))))))
theorem der_law_some (T : Txt mg) {F_law_draw : DSpec} (D_law_draw : TDef P w K mg base 1 "_law_draw" s_law_draw ["state", "many"] F_law_draw) (f : Addr) (cdv : Value) (A : Around) (outer : List PySem.Env) (s : Shared) (H : Hp) (E : XK) (hr : Room 1 (A.deeper (envOfC "_law_some" (defScope s_law_some) s.heap.objs.size f cdv))) :
  XSs (cxOf CX0 P w K mg base N_law_some "_law_some" (defScope s_law_some) f cdv A outer s H E).nox (defBody s_law_some) (d_law_some F_law_draw) :=
(xss_one (xs_ret (xe_comp [("row", 2)] rfl sc_law_some.nd (xi_seq (xv 1)) (blkOk_by (by kernel_rfl)) (fun _ _ _ _ _ => (xcg_name 2 sc_law_some.nd)) (fun _ _ _ _ _ => (xts_one (t_eq hr.units (c_def D_law_draw hr (xa_cons (xv 0) (xa_cons xe_int xa_nil))) xe_int))) (fun _ _ _ _ _ => (xv 2)))))
theorem der_law_terms_line (T : Txt mg) (f : Addr) (cdv : Value) (A : Around) (outer : List PySem.Env) (s : Shared) (H : Hp) (E : XK) (hr : Room 0 (A.deeper (envOfC "_law_terms_line" (defScope s_law_terms_line) s.heap.objs.size f cdv))) :
  XSs (cxOf CX0 P w K mg base N_law_terms_line "_law_terms_line" (defScope s_law_terms_line) f cdv A outer s H E).nox (defBody s_law_terms_line) (d_law_terms_line) :=
(xss_cons (xs_set 1 sc_law_terms_line.nd xe_str)
(xss_cons (xs_for PassesOwn.never rfl (xi_seq (xv 0)) (xg_name 2 sc_law_terms_line.nd)
(xss_one (xs_set 1 sc_law_terms_line.nd (x_add (x_add (xv 1) xe_str) (c_str (by rfl) T.z_str (xa_cons (xv 2) xa_nil))))))
(xss_one (xs_ret (x_slice (xv 1) (xo_some xe_int) xo_none)))))
theorem der_law_answer_lines (T : Txt mg) {F_law_terms_line : DSpec} (D_law_terms_line : TDef P w K mg base 1 "_law_terms_line" s_law_terms_line ["terms"] F_law_terms_line) (f : Addr) (cdv : Value) (A : Around) (outer : List PySem.Env) (s : Shared) (H : Hp) (E : XK) (hr : Room 1 (A.deeper (envOfC "_law_answer_lines" (defScope s_law_answer_lines) s.heap.objs.size f cdv))) :
  XSs (cxOf CX0 P w K mg base N_law_answer_lines "_law_answer_lines" (defScope s_law_answer_lines) f cdv A outer s H E).nox (defBody s_law_answer_lines) (d_law_answer_lines F_law_terms_line) :=
(xss_cons (xs_set 2 sc_law_answer_lines.nd (xe_lst xa_nil))
(xss_cons (xs_for PassesOwn.never rfl (xi_seq (x_add (xe_lst (xa_cons (x_ix (x_ix (x_ix (xv 0) xe_int) xe_int) xe_int) xa_nil)) (c_list (by rfl) T.z_list (xa_cons (xv 1) xa_nil)))) (xg_name 3 sc_law_answer_lines.nd)
(xss_cons (xs_set 4 sc_law_answer_lines.nd (c_def D_law_terms_line hr (xa_cons (xv 3) xa_nil)))
(xss_cons (xs_if (xt_not (xt_val (xv 3)))
(xss_one (xs_set 4 sc_law_answer_lines.nd xe_str))
xss_nil)
(xss_one (xs_expr (m_append (xv 2) (xa_cons (xv 4) xa_nil)))))))
(xss_one (xs_ret (x_add (x_add (x_slice (xv 2) xo_none (xo_some xe_int)) (xe_lst (xa_cons xe_str xa_nil))) (x_slice (xv 2) (xo_some xe_int) xo_none))))))
theorem der_law_door_lines (T : Txt mg) {F_law_terms_line : DSpec} (D_law_terms_line : TDef P w K mg base 1 "_law_terms_line" s_law_terms_line ["terms"] F_law_terms_line) (f : Addr) (cdv : Value) (A : Around) (outer : List PySem.Env) (s : Shared) (H : Hp) (E : XK) (hr : Room 1 (A.deeper (envOfC "_law_door_lines" (defScope s_law_door_lines) s.heap.objs.size f cdv))) :
  XSs (cxOf CX0 P w K mg base N_law_door_lines "_law_door_lines" (defScope s_law_door_lines) f cdv A outer s H E).nox (defBody s_law_door_lines) (d_law_door_lines F_law_terms_line) :=
(xss_cons (xs_set 1 sc_law_door_lines.nd (xe_lst xa_nil))
(xss_cons (xs_for PassesOwn.never rfl (xi_seq (x_ix (xv 0) xe_int)) (xg_tup rfl (xgs_cons (xg_name 2 sc_law_door_lines.nd) (xgs_cons (xg_name 3 sc_law_door_lines.nd) (xgs_cons (xg_name 4 sc_law_door_lines.nd) (xgs_cons (xg_name 5 sc_law_door_lines.nd) xgs_nil)))))
(xss_one (xs_expr (m_append (xv 1) (xa_cons (c_def D_law_terms_line hr (xa_cons (x_add (xe_tup (xa_cons (xv 2) (xa_cons (xv 5) (xa_cons (xv 3) xa_nil)))) (xv 4)) xa_nil)) xa_nil)))))
(xss_one (xs_ret (xv 1)))))
theorem der_law_lot_lines (T : Txt mg) {F_law_terms_line : DSpec} (D_law_terms_line : TDef P w K mg base 1 "_law_terms_line" s_law_terms_line ["terms"] F_law_terms_line) (f : Addr) (cdv : Value) (A : Around) (outer : List PySem.Env) (s : Shared) (H : Hp) (E : XK) (hr : Room 1 (A.deeper (envOfC "_law_lot_lines" (defScope s_law_lot_lines) s.heap.objs.size f cdv))) :
  XSs (cxOf CX0 P w K mg base N_law_lot_lines "_law_lot_lines" (defScope s_law_lot_lines) f cdv A outer s H E).nox (defBody s_law_lot_lines) (d_law_lot_lines F_law_terms_line) :=
(xss_cons (xs_set 1 sc_law_lot_lines.nd (xe_lst xa_nil))
(xss_cons (xs_for PassesOwn.never rfl (xi_seq (xv 0)) (xg_name 2 sc_law_lot_lines.nd)
(xss_cons (xs_set 3 sc_law_lot_lines.nd (c_def D_law_terms_line hr (xa_cons (xv 2) xa_nil)))
(xss_cons (xs_if (xt_not (xt_val (xv 2)))
(xss_one (xs_set 3 sc_law_lot_lines.nd xe_str))
xss_nil)
(xss_one (xs_expr (m_append (xv 1) (xa_cons (xv 3) xa_nil)))))))
(xss_one (xs_ret (xv 1)))))
theorem der_law_tables (T : Txt mg) {F_law_draw : DSpec} {F_law_name : DSpec} (D_law_draw : TDef P w K mg base 1 "_law_draw" s_law_draw ["state", "many"] F_law_draw) (D_law_name : TDef P w K mg base 2 "_law_name" s_law_name ["state", "taken"] F_law_name) (f : Addr) (cdv : Value) (A : Around) (outer : List PySem.Env) (s : Shared) (H : Hp) (E : XK) (hr : Room 2 (A.deeper (envOfC "_law_tables" (defScope s_law_tables) s.heap.objs.size f cdv))) :
  XSs (cxOf CX0 P w K mg base N_law_tables "_law_tables" (defScope s_law_tables) f cdv A outer s H E).nox (defBody s_law_tables) (d_law_tables F_law_draw F_law_name) :=
(xss_one (xs_ret (c_tuple (by rfl) T.z_tuple (xa_cons (xe_comp [("at", 2)] rfl sc_law_tables.nd (xi_range1 (by rfl) T.z_range (xa_cons (x_add xe_int (c_def D_law_draw hr (xa_cons (xv 0) (xa_cons xe_int xa_nil)))) xa_nil)) (blkOk_by (by kernel_rfl)) (fun _ _ _ _ _ => (xcg_name 2 sc_law_tables.nd)) (fun _ _ _ _ _ => xts_nil) (fun _ _ _ _ _ => (xe_tup (xa_cons (c_def D_law_name hr (xa_cons (xv 0) (xa_cons (xv 1) xa_nil))) (xa_cons (x_add xe_int (c_def D_law_draw hr (xa_cons (xv 0) (xa_cons xe_int xa_nil)))) xa_nil))))) xa_nil))))
theorem der_law_house (T : Txt mg) {F_law_draw : DSpec} {F_law_name : DSpec} (D_law_draw : TDef P w K mg base 1 "_law_draw" s_law_draw ["state", "many"] F_law_draw) (D_law_name : TDef P w K mg base 2 "_law_name" s_law_name ["state", "taken"] F_law_name) (f : Addr) (cdv : Value) (A : Around) (outer : List PySem.Env) (s : Shared) (H : Hp) (E : XK) (hr : Room 2 (A.deeper (envOfC "_law_house" (defScope s_law_house) s.heap.objs.size f cdv))) :
  XSs (cxOf CX0 P w K mg base N_law_house "_law_house" (defScope s_law_house) f cdv A outer s H E).nox (defBody s_law_house) (d_law_house F_law_draw F_law_name) :=
(xss_cons (xs_set 2 sc_law_house.nd (xe_lst xa_nil))
(xss_cons (xs_set 3 sc_law_house.nd (xe_lst xa_nil))
(xss_cons (xs_set 4 sc_law_house.nd (xe_lst xa_nil))
(xss_cons (xs_for PassesOwn.never rfl (xi_range1 (by rfl) T.z_range (xa_cons (c_def D_law_draw hr (xa_cons (xv 0) (xa_cons xe_int xa_nil))) xa_nil)) (xg_name 5 sc_law_house.nd)
(xss_cons (xs_asg (x_ix (xv 1) (c_def D_law_draw hr (xa_cons (xv 0) (xa_cons (c_len (by rfl) T.z_len (xa_cons (xv 1) xa_nil)) xa_nil)))) (xg_tup rfl (xgs_cons (xg_name 6 sc_law_house.nd) (xgs_cons (xg_name 7 sc_law_house.nd) xgs_nil))))
(xss_cons (xs_set 8 sc_law_house.nd (c_tuple (by rfl) T.z_tuple (xa_cons (xe_comp [("column", 10)] rfl sc_law_house.nd (xi_range1 (by rfl) T.z_range (xa_cons (xv 7) xa_nil)) (blkOk_by (by kernel_rfl)) (fun _ _ _ _ _ => (xcg_name 10 sc_law_house.nd)) (fun _ _ _ _ _ => (xts_one (xt_val (c_def D_law_draw hr (xa_cons (xv 0) (xa_cons xe_int xa_nil)))))) (fun _ _ _ _ _ => (xv 10))) xa_nil)))
(xss_cons (xs_set 9 sc_law_house.nd xe_str)
(xss_cons (xs_if (XW.xt (xw_and (t_notin (xv 6) (xv 3)) (xw_and1 (t_eq hr.units (c_def D_law_draw hr (xa_cons (xv 0) (xa_cons xe_int xa_nil))) xe_int))))
(xss_cons (xs_set 9 sc_law_house.nd xe_str)
(xss_one (xs_expr (m_append (xv 3) (xa_cons (xv 6) xa_nil)))))
xss_nil)
(xss_one (xs_expr (m_append (xv 4) (xa_cons (xe_tup (xa_cons (c_def D_law_name hr (xa_cons (xv 0) (xa_cons (xv 2) xa_nil))) (xa_cons (xv 6) (xa_cons (xv 8) (xa_cons (xv 9) xa_nil))))) xa_nil)))))))))
(xss_one (xs_ret (xe_tup (xa_cons (xv 1) (xa_cons (xe_tup xa_nil) (xa_cons (c_tuple (by rfl) T.z_tuple (xa_cons (c_sorted hr.units (by rfl) T.z_sorted (xa_cons (xv 4) xa_nil)) xa_nil)) (xa_cons (xe_tup xa_nil) (xa_cons (xe_tup xa_nil) (xa_cons (xe_tup xa_nil) xa_nil)))))))))))))
theorem der_law_question (T : Txt mg) {F_law_draw : DSpec} {F_law_name : DSpec} {F_law_value : DSpec} (D_law_draw : TDef P w K mg base 1 "_law_draw" s_law_draw ["state", "many"] F_law_draw) (D_law_name : TDef P w K mg base 2 "_law_name" s_law_name ["state", "taken"] F_law_name) (D_law_value : TDef P w K mg base 2 "_law_value" s_law_value ["state"] F_law_value) (f : Addr) (cdv : Value) (A : Around) (outer : List PySem.Env) (s : Shared) (H : Hp) (E : XK) (hr : Room 2 (A.deeper (envOfC "_law_question" (defScope s_law_question) s.heap.objs.size f cdv))) :
  XSs (cxOf CX0 P w K mg base N_law_question "_law_question" (defScope s_law_question) f cdv A outer s H E).nox (defBody s_law_question) (d_law_question F_law_draw F_law_name F_law_value) :=
(xss_cons (xs_set 2 sc_law_question.nd (xe_lst xa_nil))
(xss_cons (xs_set 3 sc_law_question.nd (c_tuple (by rfl) T.z_tuple (xa_cons (xe_comp [("at", 6)] rfl sc_law_question.nd (xi_range1 (by rfl) T.z_range (xa_cons (c_def D_law_draw hr (xa_cons (xv 0) (xa_cons xe_int xa_nil))) xa_nil)) (blkOk_by (by kernel_rfl)) (fun _ _ _ _ _ => (xcg_name 6 sc_law_question.nd)) (fun _ _ _ _ _ => xts_nil) (fun _ _ _ _ _ => (c_def D_law_name hr (xa_cons (xv 0) (xa_cons (xv 2) xa_nil))))) xa_nil)))
(xss_cons (xs_set 4 sc_law_question.nd (c_def D_law_draw hr (xa_cons (xv 0) (xa_cons xe_int xa_nil))))
(xss_cons (xs_set 5 sc_law_question.nd (xe_lst xa_nil))
(xss_cons (xs_for PassesOwn.never rfl (xi_range1 (by rfl) T.z_range (xa_cons (x_add xe_int (c_def D_law_draw hr (xa_cons (xv 0) (xa_cons xe_int xa_nil)))) xa_nil)) (xg_name 6 sc_law_question.nd)
(xss_cons (xs_set 7 sc_law_question.nd (c_list (by rfl) T.z_list (xa_cons (xv 3) xa_nil)))
(xss_cons (xs_set 8 sc_law_question.nd (xe_lst xa_nil))
(xss_cons (xs_for PassesOwn.never rfl (xi_range1 (by rfl) T.z_range (xa_cons (x_add xe_int (c_def D_law_draw hr (xa_cons (xv 0) (xa_cons xe_int xa_nil)))) xa_nil)) (xg_name 9 sc_law_question.nd)
(xss_cons (xs_asg (x_ix (xv 1) (c_def D_law_draw hr (xa_cons (xv 0) (xa_cons (c_len (by rfl) T.z_len (xa_cons (xv 1) xa_nil)) xa_nil)))) (xg_tup rfl (xgs_cons (xg_name 10 sc_law_question.nd) (xgs_cons (xg_name 11 sc_law_question.nd) xgs_nil))))
(xss_cons (xs_set 12 sc_law_question.nd (xe_lst xa_nil))
(xss_cons (xs_for PassesOwn.never rfl (xi_range1 (by rfl) T.z_range (xa_cons (xv 11) xa_nil)) (xg_name 13 sc_law_question.nd)
(xss_one (xs_if (t_eq hr.units (c_def D_law_draw hr (xa_cons (xv 0) (xa_cons xe_int xa_nil))) xe_int)
(xss_one (xs_expr (m_append (xv 12) (xa_cons (c_def D_law_value hr (xa_cons (xv 0) xa_nil)) xa_nil))))
(xss_one (xs_if (XW.xt (xw_and (xt_val (xv 7)) (xw_and1 (t_eq hr.units (c_def D_law_draw hr (xa_cons (xv 0) (xa_cons xe_int xa_nil))) xe_int))))
(xss_one (xs_expr (m_append (xv 12) (xa_cons (x_ix (xv 7) (c_def D_law_draw hr (xa_cons (xv 0) (xa_cons (c_len (by rfl) T.z_len (xa_cons (xv 7) xa_nil)) xa_nil)))) xa_nil))))
(xss_cons (xs_expr (m_append (xv 7) (xa_cons (c_def D_law_name hr (xa_cons (xv 0) (xa_cons (xv 2) xa_nil))) xa_nil)))
(xss_one (xs_expr (m_append (xv 12) (xa_cons (x_ix (xv 7) (x_neg xe_int)) xa_nil))))))))))
(xss_one (xs_expr (m_append (xv 8) (xa_cons (xe_tup (xa_cons (xv 10) (xa_cons (c_tuple (by rfl) T.z_tuple (xa_cons (xv 12) xa_nil)) xa_nil))) xa_nil))))))))
(xss_cons (xs_set 14 sc_law_question.nd (xe_lst xa_nil))
(xss_cons (xs_for PassesOwn.never rfl (xi_range1 (by rfl) T.z_range (xa_cons (xv 4) xa_nil)) (xg_name 9 sc_law_question.nd)
(xss_one (xs_if (XW.xt (xw_and (xt_val (xv 7)) (xw_and1 (xt_val (c_def D_law_draw hr (xa_cons (xv 0) (xa_cons xe_int xa_nil)))))))
(xss_one (xs_expr (m_append (xv 14) (xa_cons (x_ix (xv 7) (c_def D_law_draw hr (xa_cons (xv 0) (xa_cons (c_len (by rfl) T.z_len (xa_cons (xv 7) xa_nil)) xa_nil)))) xa_nil))))
(xss_one (xs_expr (m_append (xv 14) (xa_cons (c_def D_law_value hr (xa_cons (xv 0) xa_nil)) xa_nil)))))))
(xss_one (xs_expr (m_append (xv 5) (xa_cons (xe_tup (xa_cons (c_tuple (by rfl) T.z_tuple (xa_cons (xv 14) xa_nil)) (xa_cons (c_tuple (by rfl) T.z_tuple (xa_cons (xv 8) xa_nil)) xa_nil))) xa_nil))))))))))
(xss_one (xs_ret (xe_tup (xa_cons (xv 3) (xa_cons (c_tuple (by rfl) T.z_tuple (xa_cons (xv 5) xa_nil)) xa_nil))))))))))
theorem der_law_rows (T : Txt mg) {F_law_draw : DSpec} {F_law_value : DSpec} (D_law_draw : TDef P w K mg base 1 "_law_draw" s_law_draw ["state", "many"] F_law_draw) (D_law_value : TDef P w K mg base 2 "_law_value" s_law_value ["state"] F_law_value) (f : Addr) (cdv : Value) (A : Around) (outer : List PySem.Env) (s : Shared) (H : Hp) (E : XK) (hr : Room 2 (A.deeper (envOfC "_law_rows" (defScope s_law_rows) s.heap.objs.size f cdv))) :
  XSs (cxOf CX0 P w K mg base N_law_rows "_law_rows" (defScope s_law_rows) f cdv A outer s H E).nox (defBody s_law_rows) (d_law_rows F_law_draw F_law_value) :=
(xss_cons (xs_set 2 sc_law_rows.nd (c_def D_law_draw hr (xa_cons (xv 0) (xa_cons xe_int xa_nil))))
(xss_cons (xs_if (t_eq hr.units (c_def D_law_draw hr (xa_cons (xv 0) (xa_cons xe_int xa_nil))) xe_int)
(xss_one (xs_set 2 sc_law_rows.nd (x_sub xe_int (c_def D_law_draw hr (xa_cons (xv 0) (xa_cons xe_int xa_nil))))))
xss_nil)
(xss_cons (xs_set 3 sc_law_rows.nd (c_def D_law_value hr (xa_cons (xv 0) xa_nil)))
(xss_cons (xs_set 4 sc_law_rows.nd (xe_lst xa_nil))
(xss_cons (xs_for PassesOwn.never rfl (xi_range1 (by rfl) T.z_range (xa_cons (xv 2) xa_nil)) (xg_name 5 sc_law_rows.nd)
(xss_one (xs_if (t_lt (xv 5) xe_int)
(xss_one (xs_expr (m_append (xv 4) (xa_cons (c_tuple (by rfl) T.z_tuple (xa_cons (xe_comp [("lap", 6)] rfl sc_law_rows.nd (xi_range1 (by rfl) T.z_range (xa_cons (xv 1) xa_nil)) (blkOk_by (by kernel_rfl)) (fun _ _ _ _ _ => (xcg_name 6 sc_law_rows.nd)) (fun _ _ _ _ _ => xts_nil) (fun _ _ _ _ _ => (c_def D_law_value hr (xa_cons (xv 0) xa_nil)))) xa_nil)) xa_nil))))
(xss_one (xs_expr (m_append (xv 4) (xa_cons (c_tuple (by rfl) T.z_tuple (xa_cons (xe_comp [("lap", 6)] rfl sc_law_rows.nd (xi_range1 (by rfl) T.z_range (xa_cons (xv 1) xa_nil)) (blkOk_by (by kernel_rfl)) (fun _ _ _ _ _ => (xcg_name 6 sc_law_rows.nd)) (fun _ _ _ _ _ => xts_nil) (fun _ _ _ _ _ => (x_mod (c_int (by rfl) T.z_int (xa_cons (x_add (x_mul (xv 3) (x_add (xv 6) xe_int)) (x_mul (xv 5) xe_int)) xa_nil)) xe_int))) xa_nil)) xa_nil)))))))
(xss_one (xs_ret (c_tuple (by rfl) T.z_tuple (xa_cons (xv 4) xa_nil)))))))))
theorem der_law_lots (T : Txt mg) {F_law_draw : DSpec} (D_law_draw : TDef P w K mg base 1 "_law_draw" s_law_draw ["state", "many"] F_law_draw) (f : Addr) (cdv : Value) (A : Around) (outer : List PySem.Env) (s : Shared) (H : Hp) (E : XK) (hr : Room 1 (A.deeper (envOfC "_law_lots" (defScope s_law_lots) s.heap.objs.size f cdv))) :
  XSs (cxOf CX0 P w K mg base N_law_lots "_law_lots" (defScope s_law_lots) f cdv A outer s H E).nox (defBody s_law_lots) (d_law_lots F_law_draw) :=
(xss_cons (xs_set 2 sc_law_lots.nd (x_slice (xe_comp [("door", 5)] rfl sc_law_lots.nd (xi_seq (x_ix (xv 1) xe_int)) (blkOk_by (by kernel_rfl)) (fun _ _ _ _ _ => (xcg_name 5 sc_law_lots.nd)) (fun _ _ _ _ _ => xts_nil) (fun _ _ _ _ _ => (x_ix (xv 5) xe_int))) xo_none (xo_some xe_int)))
(xss_cons (xs_set 3 sc_law_lots.nd (xe_lst xa_nil))
(xss_cons (xs_for PassesOwn.never rfl (xi_range1 (by rfl) T.z_range (xa_cons (c_def D_law_draw hr (xa_cons (xv 0) (xa_cons xe_int xa_nil))) xa_nil)) (xg_name 4 sc_law_lots.nd)
(xss_one (xs_expr (m_append (xv 3) (xa_cons (c_tuple (by rfl) T.z_tuple (xa_cons (c_sorted hr.units (by rfl) T.z_sorted (xa_cons (xe_comp [("name", 6)] rfl sc_law_lots.nd (xi_seq (xv 2)) (blkOk_by (by kernel_rfl)) (fun _ _ _ _ _ => (xcg_name 6 sc_law_lots.nd)) (fun _ _ _ _ _ => (xts_one (xt_val (c_def D_law_draw hr (xa_cons (xv 0) (xa_cons xe_int xa_nil)))))) (fun _ _ _ _ _ => (xv 6))) xa_nil)) xa_nil)) xa_nil)))))
(xss_one (xs_ret (c_tuple (by rfl) T.z_tuple (xa_cons (xv 3) xa_nil)))))))
theorem der_law_lines (T : Txt mg) (f : Addr) (cdv : Value) (A : Around) (outer : List PySem.Env) (s : Shared) (H : Hp) (E : XK) (hr : Room 0 (A.deeper (envOfC "_law_lines" (defScope s_law_lines) s.heap.objs.size f cdv))) :
  XSs (cxOf CX0 P w K mg base N_law_lines "_law_lines" (defScope s_law_lines) f cdv A outer s H E).nox (defBody s_law_lines) (d_law_lines) :=
(xss_cons (xs_if (XW.xt (xw_or (xt_not (xt_val (c_isi (by rfl) T.z_isinstance (xa_cons (xv 0) (xa_cons (xe_ty (n := "list") (by rfl) T.z_list (by decide +kernel)) xa_nil))))) (xw_or1 (t_ne hr.units (c_len (by rfl) T.z_len (xa_cons (xv 0) xa_nil)) (c_len (by rfl) T.z_len (xa_cons (xv 1) xa_nil))))))
(xss_one (xs_ret xe_bl))
xss_nil)
(xss_cons (xs_for PassesOwn.never rfl (xi_range1 (by rfl) T.z_range (xa_cons (c_len (by rfl) T.z_len (xa_cons (xv 1) xa_nil)) xa_nil)) (xg_name 2 sc_law_lines.nd)
(xss_one (xs_if (XW.xt (xw_or (xt_not (xt_val (c_isi (by rfl) T.z_isinstance (xa_cons (x_ix (xv 0) (xv 2)) (xa_cons (xe_ty (n := "str") (by rfl) T.z_str (by decide +kernel)) xa_nil))))) (xw_or1 (t_ne hr.units (x_ix (xv 0) (xv 2)) (x_ix (xv 1) (xv 2))))))
(xss_one (xs_ret xe_bl))
xss_nil)))
(xss_one (xs_ret xe_bl))))
theorem der_law (T : Txt mg) {F_law_state : DSpec} {F_law_tables : DSpec} {F_law_house : DSpec} {F_law_question : DSpec} {F_law_rows : DSpec} {F_law_lots : DSpec} {F_law_answer_lines : DSpec} {F_answer_table : DSpec} {F_law_lines : DSpec} {F_law_door_lines : DSpec} {F_door_table : DSpec} {F_law_lot_lines : DSpec} {F_lot_lines : DSpec} (D_law_state : TDef P w K mg base 1 "_law_state" s_law_state ["script"] F_law_state) (D_law_tables : TDef P w K mg base 3 "_law_tables" s_law_tables ["state", "names"] F_law_tables) (D_law_house : TDef P w K mg base 3 "_law_house" s_law_house ["state", "tables"] F_law_house) (D_law_question : TDef P w K mg base 3 "_law_question" s_law_question ["state", "tables"] F_law_question) (D_law_rows : TDef P w K mg base 3 "_law_rows" s_law_rows ["state", "long"] F_law_rows) (D_law_lots : TDef P w K mg base 2 "_law_lots" s_law_lots ["state", "house"] F_law_lots) (D_law_answer_lines : TDef P w K mg base 2 "_law_answer_lines" s_law_answer_lines ["question", "rows"] F_law_answer_lines) (D_answer_table : TDef P w K mg base 3 "answer_table" s_answer_table ["question", "rows"] F_answer_table) (D_law_lines : TDef P w K mg base 1 "_law_lines" s_law_lines ["told", "due"] F_law_lines) (D_law_door_lines : TDef P w K mg base 2 "_law_door_lines" s_law_door_lines ["house"] F_law_door_lines) (D_door_table : TDef P w K mg base 1 "door_table" s_door_table ["house"] F_door_table) (D_law_lot_lines : TDef P w K mg base 2 "_law_lot_lines" s_law_lot_lines ["lots"] F_law_lot_lines) (D_lot_lines : TDef P w K mg base 1 "lot_lines" s_lot_lines ["lots"] F_lot_lines) (f : Addr) (cdv : Value) (A : Around) (outer : List PySem.Env) (s : Shared) (H : Hp) (E : XK) (hr : Room 3 (A.deeper (envOfC "law" (defScope s_law) s.heap.objs.size f cdv))) :
  XSs (cxOf CX0 P w K mg base N_law "law" (defScope s_law) f cdv A outer s H E).nox (defBody s_law) (d_law F_law_state F_law_tables F_law_house F_law_question F_law_rows F_law_lots F_law_answer_lines F_answer_table F_law_lines F_law_door_lines F_door_table F_law_lot_lines F_lot_lines) :=
(xss_cons (xs_set 1 sc_law.nd (c_def D_law_state hr (xa_cons (xv 0) xa_nil)))
(xss_cons (xs_set 2 sc_law.nd (c_def D_law_tables hr (xa_cons (xv 1) (xa_cons (xe_lst xa_nil) xa_nil))))
(xss_cons (xs_set 3 sc_law.nd (c_def D_law_house hr (xa_cons (xv 1) (xa_cons (xv 2) xa_nil))))
(xss_cons (xs_set 4 sc_law.nd (c_def D_law_question hr (xa_cons (xv 1) (xa_cons (xv 2) xa_nil))))
(xss_cons (xs_set 5 sc_law.nd (c_def D_law_rows hr (xa_cons (xv 1) (xa_cons (c_len (by rfl) T.z_len (xa_cons (x_ix (x_ix (x_ix (xv 4) xe_int) xe_int) xe_int) xa_nil)) xa_nil))))
(xss_cons (xs_set 6 sc_law.nd (x_add (c_def D_law_lots hr (xa_cons (xv 1) (xa_cons (xv 3) xa_nil))) (xe_tup (xa_cons (xe_tup xa_nil) xa_nil))))
(xss_cons (xs_set 7 sc_law.nd (xe_tup (xa_cons (x_ix (xv 4) xe_int) (xa_cons (x_slice (x_ix (xv 4) xe_int) xo_none (xo_some xe_int)) xa_nil))))
(xss_cons (xs_set 8 sc_law.nd (c_def D_law_answer_lines hr (xa_cons (xv 4) (xa_cons (xv 5) xa_nil))))
(xss_cons (xs_set 9 sc_law.nd (c_def D_answer_table hr (xa_cons (xv 4) (xa_cons (xv 5) xa_nil))))
(xss_cons (xs_if (xt_not (xt_val (c_def D_law_lines hr (xa_cons (xv 9) (xa_cons (xv 8) xa_nil)))))
(xss_one (xs_ret xe_bl))
xss_nil)
(xss_cons (xs_expr (m_append (xv 9) (xa_cons (x_ix (xv 8) xe_int) xa_nil)))
(xss_cons (xs_asg xe_str (g_sub (xv 9) xe_int))
(xss_cons (xs_if (xt_not (xt_val (c_def D_law_lines hr (xa_cons (c_defk0 D_answer_table KB_answer_table_0_rows_question hr (xk_cons (xv 5) (xk_cons (xv 7) xk_nil))) (xa_cons (xv 8) xa_nil)))))
(xss_one (xs_ret xe_bl))
xss_nil)
(xss_cons (xs_if (xt_not (xt_val (c_def D_law_lines hr (xa_cons (c_def D_answer_table hr (xa_cons (xv 4) (xa_cons (xe_tup xa_nil) xa_nil))) (xa_cons (x_slice (xv 8) xo_none (xo_some xe_int)) xa_nil)))))
(xss_one (xs_ret xe_bl))
xss_nil)
(xss_cons (xs_set 8 sc_law.nd (c_def D_law_door_lines hr (xa_cons (xv 3) xa_nil)))
(xss_cons (xs_set 9 sc_law.nd (c_def D_door_table hr (xa_cons (xv 3) xa_nil)))
(xss_cons (xs_if (xt_not (xt_val (c_def D_law_lines hr (xa_cons (xv 9) (xa_cons (xv 8) xa_nil)))))
(xss_one (xs_ret xe_bl))
xss_nil)
(xss_cons (xs_expr (m_append (xv 9) (xa_cons xe_str xa_nil)))
(xss_cons (xs_if (xt_not (xt_val (c_def D_law_lines hr (xa_cons (c_defk0 D_door_table KB_door_table_0_house hr (xk_cons (xv 3) xk_nil)) (xa_cons (xv 8) xa_nil)))))
(xss_one (xs_ret xe_bl))
xss_nil)
(xss_cons (xs_set 10 sc_law.nd (xe_tup (xa_cons (xv 2) (xa_cons (xe_tup xa_nil) (xa_cons (xe_tup xa_nil) (xa_cons (xe_tup xa_nil) (xa_cons (xe_tup xa_nil) (xa_cons (xe_tup xa_nil) xa_nil))))))))
(xss_cons (xs_if (xt_not (xt_val (c_def D_law_lines hr (xa_cons (c_def D_door_table hr (xa_cons (xv 10) xa_nil)) (xa_cons (xe_lst xa_nil) xa_nil)))))
(xss_one (xs_ret xe_bl))
xss_nil)
(xss_cons (xs_set 8 sc_law.nd (c_def D_law_lot_lines hr (xa_cons (xv 6) xa_nil)))
(xss_cons (xs_set 9 sc_law.nd (c_def D_lot_lines hr (xa_cons (xv 6) xa_nil)))
(xss_cons (xs_if (xt_not (xt_val (c_def D_law_lines hr (xa_cons (xv 9) (xa_cons (xv 8) xa_nil)))))
(xss_one (xs_ret xe_bl))
xss_nil)
(xss_cons (xs_expr (m_pop0 (xv 9)))
(xss_cons (xs_if (XW.xt (xw_or (xt_not (xt_val (c_def D_law_lines hr (xa_cons (c_defk0 D_lot_lines KB_lot_lines_0_lots hr (xk_cons (xv 6) xk_nil)) (xa_cons (xv 8) xa_nil))))) (xw_or1 (xt_not (xt_val (c_def D_law_lines hr (xa_cons (c_def D_lot_lines hr (xa_cons (xe_tup xa_nil) xa_nil)) (xa_cons (xe_lst xa_nil) xa_nil))))))))
(xss_one (xs_ret xe_bl))
xss_nil)
(xss_cons (xs_set 11 sc_law.nd (xe_tup (xa_cons (xe_tup xa_nil) (xa_cons (xe_tup (xa_cons (xe_tup (xa_cons (xe_tup xa_nil) (xa_cons (x_ix (x_ix (x_ix (xv 4) xe_int) xe_int) xe_int) xa_nil))) xa_nil)) xa_nil))))
(xss_one (xs_ret (c_def D_law_lines hr (xa_cons (c_def D_answer_table hr (xa_cons (xv 11) (xa_cons (xe_tup (xa_cons (xe_tup xa_nil) xa_nil)) xa_nil))) (xa_cons (xe_lst (xa_cons xe_str (xa_cons xe_str (xa_cons xe_str xa_nil)))) xa_nil))))))))))))))))))))))))))))))))
end
end K92

/-! K92M: names spelled, terms in lines; plain Lean. -/
namespace K92
open PySem L2 TL
def letter (k : Nat) : Nat := 97 + k
def sign (k : Nat) : Nat := if k < 26 then 97 + k else 22 + k
def dig (r : Nat) : List Nat := if h : r = 0 then [] else sign (r % 36) :: dig (r / 36)
termination_by r
decreasing_by omega
def sp (n : Nat) : List Nat := letter (n % 26) :: dig (n / 26)
theorem dig_zero : dig 0 = [] := by rw [dig]; simp
theorem dig_pos {r : Nat} (h : 0 < r) : dig r = sign (r % 36) :: dig (r / 36) := by rw [dig, dif_neg (by omega)]
theorem sign_inj {a b : Nat} (ha : a < 36) (hb : b < 36) (h : sign a = sign b) : a = b := by
  unfold sign at h
  split at h <;> split at h <;> omega
theorem dig_inj : ∀ (n a b : Nat), a ≤ n → dig a = dig b → a = b := by
  intro n
  induction n with
  | zero =>
    intro a b ha h
    have e : a = 0 := by omega
    subst e
    by_cases hb : b = 0
    · exact hb.symm
    · rw [dig_zero, dig_pos (by omega)] at h
      cases h
  | succ n ih =>
    intro a b ha h
    by_cases h0 : a = 0
    · subst h0
      by_cases hb : b = 0
      · exact hb.symm
      · rw [dig_zero, dig_pos (by omega)] at h
        cases h
    · by_cases hb : b = 0
      · subst hb
        rw [dig_zero, dig_pos (by omega)] at h
        cases h
      · rw [dig_pos (r := a) (by omega), dig_pos (r := b) (by omega)] at h
        injection h with h1 h2
        have e1 := sign_inj (Nat.mod_lt _ (by decide)) (Nat.mod_lt _ (by decide)) h1
        have e2 := ih (a / 36) (b / 36) (by omega) h2
        omega
theorem sp_inj {a b : Nat} (h : sp a = sp b) : a = b := by
  unfold sp letter at h
  injection h with h1 h2
  have e2 := dig_inj _ _ _ (Nat.le_refl _) h2
  omega
theorem dig_len : ∀ (k r : Nat), r < 36 ^ k → (dig r).length ≤ k := by
  intro k
  induction k with
  | zero =>
    intro r h
    have e : r = 0 := by simpa using h
    subst e
    rw [dig_zero]
    exact Nat.le_refl _
  | succ k ih =>
    intro r h
    by_cases h0 : r = 0
    · subst h0
      rw [dig_zero]
      exact Nat.zero_le _
    · rw [dig_pos (by omega), List.length_cons]
      have := ih (r / 36) (by rw [Nat.pow_succ] at h; exact Nat.div_lt_of_lt_mul (by omega))
      omega
def NM : Nat := 2037468266496
theorem sp_len {n : Nat} (h : n < NM) : (sp n).length ≤ 8 := by
  unfold sp
  rw [List.length_cons]
  have := dig_len 7 (n / 26) (by
    have : n < 26 * 36 ^ 7 := by
      have e : (26 * 36 ^ 7 : Nat) = NM := by decide
      omega
    exact Nat.div_lt_of_lt_mul this)
  omega
def spell (n : Int) : Str := ⟨(sp n.toNat).toArray⟩
theorem spell_tl (n : Int) : tl (spell n) = sp n.toNat := rfl
theorem spell_inj {a b : Int} (ha : 0 ≤ a) (hb : 0 ≤ b) (h : spell a = spell b) : a = b := by
  have e : sp a.toNat = sp b.toNat := by rw [← spell_tl, ← spell_tl, h]
  have := sp_inj e
  omega
theorem spell_len {n : Int} (h0 : 0 ≤ n) (h : n < 2037468266496) : (spell n).length ≤ 8 := by
  rw [len_tl, spell_tl]
  exact sp_len (by unfold NM; omega)
/-- injective into a list: no more than its length -/
theorem pigeon {α : Type} [DecidableEq α] : ∀ (n : Nat) (f : Nat → α) (l : List α), (∀ i j, i < n → j < n → f i = f j → i = j) → (∀ i, i < n → f i ∈ l) → n ≤ l.length := by
  intro n
  induction n with
  | zero => intro _ _ _ _; exact Nat.zero_le _
  | succ n ih =>
    intro f l hi hm
    have h1 := hm n (by omega)
    have h2 := ih f (l.erase (f n)) (fun i j a b => hi i j (by omega) (by omega)) fun i hlt => by
      refine (List.mem_erase_of_ne fun e => ?_).mpr (hm i (by omega))
      have := hi i n (by omega) (by omega) e
      omega
    rw [List.length_erase_of_mem h1] at h2
    have := List.length_pos_of_mem h1
    omega
theorem fresh (l : List Str) (n : Int) (h0 : 0 ≤ n) (hl : l.length < 2037468266496) : ∃ k : Nat, spell ((n + k) % 2037468266496) ∉ l := by
  apply Classical.byContradiction
  intro h
  have hm : ∀ k : Nat, spell ((n + k) % 2037468266496) ∈ l := fun k => Classical.byContradiction fun q => h ⟨k, q⟩
  have := pigeon (l.length + 1) (fun k => spell ((n + k) % 2037468266496)) l (fun i j hi hj e => by
    have := spell_inj (Int.emod_nonneg _ (by decide)) (Int.emod_nonneg _ (by decide)) e
    omega) fun i _ => hm i
  omega
/-! ### terms in lines -/
inductive Tm where
  | mark (s : Str) | val (i : Int)
def Tm.txt : Tm → Str
  | .mark s => s
  | .val i => Str.ofString (toString i)
def Tm.ok : Tm → Prop
  | .mark s => s.length ≤ 8
  | .val i => 0 ≤ i ∧ i ≤ 1000000000000
theorem txt_len {t : Tm} (h : t.ok) : t.txt.length ≤ 13 := by
  cases t with
  | mark s =>
    have : s.length ≤ 8 := h
    show s.length ≤ 13
    omega
  | val i =>
    obtain ⟨h1, h2⟩ : 0 ≤ i ∧ i ≤ 1000000000000 := h
    have e : i = ((i.toNat : Nat) : Int) := by omega
    show (Str.ofString (toString i)).length ≤ 13
    rw [e, len_tl, tl_num]
    exact numL_len (by decide) (by omega)
def sp1 : Str := Str.ofString " "
theorem tl_sp1 : tl sp1 = [32] := by decide +kernel
def jn (ts : List Str) : Str := Txt.join sp1 ts
theorem tl_jn (ts : List Str) : tl (jn ts) = joinL [32] (ts.map tl) := by
  unfold jn
  rw [join_eq, tl_join, tl_sp1]
def run (ts : List Str) : List Nat := (ts.map fun t => 32 :: tl t).flatten
theorem run_snoc (ts : List Str) (t : Str) : run (ts ++ [t]) = run ts ++ 32 :: tl t := by
  unfold run
  simp
theorem run_drop : ∀ ts : List Str, (run ts).drop 1 = joinL [32] (ts.map tl)
  | [] => rfl
  | [t] => by
    unfold run
    simp [joinL]
  | t :: u :: r => by
    have ih := run_drop (u :: r)
    have e : run (t :: u :: r) = 32 :: tl t ++ run (u :: r) := by
      unfold run
      simp
    have e2 : run (u :: r) = 32 :: (run (u :: r)).drop 1 := by
      unfold run
      simp
    rw [e, e2, ih]
    simp [joinL]
theorem cut_run {s : Str} {ts : List Str} (h : tl s = run ts) : cutS s (some 1) none = jn ts := by
  apply ext_tl
  rw [tl_jn, ← run_drop, ← h]
  show ((s.cps.toList.drop (HT.sIx s.length 0 (some 1))).take (HT.sIx s.length s.length none - HT.sIx s.length 0 (some 1))) = s.cps.toList.drop 1
  have e1 : HT.sIx s.length 0 (some 1) = min 1 s.length := HT.sIx_nat _ _ 1
  rw [e1, HT.sIx_none]
  have e3 : s.length = s.cps.toList.length := len_tl s
  rw [e3]
  cases hl : s.cps.toList with
  | nil => rfl
  | cons x r =>
    have e2 : min 1 (x :: r).length = 1 := by rw [List.length_cons]; omega
    rw [e2]
    show List.take (r.length + 1 - 1) r = r
    rw [Nat.add_sub_cancel, List.take_length]
theorem run_len : ∀ {ts : List Str} {b : Nat}, (∀ t ∈ ts, t.length ≤ b) → (run ts).length ≤ ts.length * (b + 1)
  | [], _, _ => Nat.zero_le _
  | t :: r, b, h => by
    have ih := run_len (ts := r) (b := b) fun u hu => h u (List.mem_cons_of_mem _ hu)
    have e : run (t :: r) = 32 :: tl t ++ run r := by
      unfold run
      simp
    have h1 := h t List.mem_cons_self
    rw [len_tl] at h1
    rw [e, List.length_append, List.length_cons, List.length_cons]
    rw [Nat.add_mul, Nat.one_mul]
    omega
theorem sum_len : ∀ {ts : List Str} {b : Nat}, (∀ t ∈ ts, t.length ≤ b) → (ts.map (·.length)).sum ≤ ts.length * b
  | [], _, _ => Nat.zero_le _
  | t :: r, b, h => by
    have ih := sum_len (ts := r) (b := b) fun u hu => h u (List.mem_cons_of_mem _ hu)
    have h1 := h t List.mem_cons_self
    rw [List.map_cons, List.sum_cons, List.length_cons, Nat.add_mul, Nat.one_mul]
    omega
end K92

namespace K92
open PySem PySem.Spec PyProof.Rows L2 TL DL
local macro_rules | `(tactic| walk_at "dl") => `(tactic| simp (config := { decide := false }) only [e_seq, e_asg, e_nm, e_op, e_un, e_cb, e_c, e_var, e_ifs, e_tru, e_B, e_drop, e_bm, e_bm0, e_ret, e_retN, e_next, e_break, e_cont, e_nil, e_cons, e_tup, e_lst, e_sl, e_onone, e_osome, e_gsub, e_call, e_callk, e_and, e_or, e_not, e_andv, e_orv, e_notv, e_if, e_par, e_for, e_comp, e_iseq, e_rng1, e_yes, e_gtp, e_gc, e_gn0,
  e_addI, e_addS, e_addT, e_addL, e_i20, e_i2, e_neg, e_cmpI, e_cmpS, e_eqI, e_eqS, e_eqB, e_ixT, e_ixLit, e_ixL, e_ixS, e_set, e_slT, e_slLit, e_slS, e_slL, e_lenS, e_lenT, e_lenLit, e_lenL, e_i1, e_intI, e_intB, e_strI, e_strS, e_listT, e_listLit, e_listL, e_tupleT, e_tupleL, e_append, e_pop0, e_tyL, e_tyS, e_truL, e_truT, e_truB, e_truI, e_truS, e_truN, e_seqT, e_seqLit, e_seqL, e_in, e_inT, e_isi,
  atI_0, atI_1, atI_2, atI_3, atI_end, ixN_0, ixN_1, ixN_11, ixN_last, List.map_append, List.map_cons, List.map_nil, get_app, get_app0, set_app, set_app0, List.cons_append, List.nil_append, List.append_assoc, List.length_append, List.length_cons, List.length_nil, Nat.zero_add, List.length_map, List.length_set,
  List.getElem?_cons_zero, List.getElem?_cons_succ, List.set_cons_zero, List.set_cons_succ, Option.some.injEq, exists_eq_left', exists_eq_left, exists_and_left, W.int.injEq, W.bl.injEq, W.str.injEq, W.tup.injEq, W.ref.injEq, O.lst.injEq, List.cons.injEq, reduceCtorEq, false_and, exists_false, or_false, false_or, true_and, and_true, decide_eq_true_eq, Bool.false_xor, Bool.true_xor, Bool.not_eq_true', decide_eq_false_iff_not, List.isEmpty_cons, List.isEmpty_nil, Bool.not_true, Bool.not_false, if_true, if_false, Bool.false_eq_true, reduceIte])

/-- the state of the draws -/
structure Dr where
  cells : List Int
  seed : Int
abbrev B (st : Dr) (R : Sto) : Sto := .lst (st.cells.map W.int) :: .lst [.ref 0, .int st.seed] :: R
structure Good (st : Dr) : Prop where
  cells : ∀ c ∈ st.cells, 0 ≤ c
  len : st.cells.length ≤ 100
  s0 : 0 ≤ st.seed
  s1 : st.seed < 2305843009213693952
theorem closed_B {st st' : Dr} {R : Sto} (h : Closed (B st R)) : Closed (B st' R) := by
  rw [closed_iff] at h ⊢
  intro o ho
  rcases List.mem_cons.mp ho with rfl | ho
  · exact bndL_ints _ _
  · rcases List.mem_cons.mp ho with rfl | ho
    · show (decide (0 < R.length + 1 + 1) && (true && true)) = true
      simp
    · exact h o (List.mem_cons_of_mem _ (List.mem_cons_of_mem _ ho))
theorem endB {st st' : Dr} {R : Sto} {Q : WK} {w : DL.W} (cl : Closed (B st R)) (hp : w.pure = true) (q : Q w (B st' R)) : Ends0 (R.length + 1 + 1) Q w (B st' R) :=
  Ends0.keep (Nat.le_refl _) (closed_B cl) (pure_bnd _ _ hp) q
theorem endBT {st st' : Dr} {R : Sto} {Q : WK} {w : DL.W} (T : Sto) (cl : Closed (B st R)) (hp : w.pure = true) (q : Q w (B st' R)) : Ends0 (R.length + 1 + 1) Q w (B st' (R ++ T)) :=
  Ends0.drop (S0 := B st' R) T (Nat.le_refl _) (closed_B cl) (pure_bnd _ _ hp) q

def F_draw : DSpec := fun ws S Q => ∃ st R many, ws = [.ref 1, .int many] ∧ S = B st R ∧ Good st ∧ 0 < many ∧ many < 18446744073709551616 ∧ ∀ st' r, Good st' → 0 ≤ r → r < many → Q (.int r) (B st' R)
theorem vc_draw : ∀ ws S Q, Closed S → F_draw ws S Q → d_law_draw (endsW S.length Q) (startW N_law_draw.length ws) S := by
  rintro ws S Q cl ⟨st, R, many, rfl, rfl, g, hm, hl, q⟩
  show d_law_draw _ [some (.ref 1), some (.int many), none, none, none] _
  unfold d_law_draw
  have m1 : ∀ x : Int, 0 ≤ x % many := fun x => Int.emod_nonneg _ (by omega)
  have m2 : ∀ x : Int, x % many < many := fun x => Int.emod_lt_of_pos _ hm
  obtain ⟨cells, seed⟩ := st
  rcases List.eq_nil_or_concat cells with rfl | ⟨pre, c, rfl⟩
  · walk_at "dl"
    have s0 : 0 ≤ seed := g.s0
    have s1 : seed < 2305843009213693952 := g.s1
    generalize hw : (seed * 2685821657736338717 + 6135914223466881) % 2305843009213693951 = word
    have w0 : 0 ≤ word := by rw [← hw]; exact Int.emod_nonneg _ (by decide)
    have w1 : word < 2305843009213693951 := by rw [← hw]; exact Int.emod_lt_of_pos _ (by decide)
    refine ⟨.inl (.inl ⟨by omega, by omega⟩), by decide, .inl (.inl ⟨by omega, by omega⟩), ⟨by decide, by decide⟩, ⟨by decide, by decide⟩, hm, ?_⟩
    exact endB (st' := ⟨[], word⟩) cl rfl (q ⟨[], word⟩ _ ⟨(by intro _ h; cases h), Nat.zero_le _, w0, by show word < _; omega⟩ (m1 _) (m2 _))
  · have c0 : 0 ≤ c := g.cells c (by simp)
    have gl : pre.length ≤ 100 := by have := g.len; simp at this; omega
    have gc : ∀ x ∈ pre, 0 ≤ x := fun x hx => g.cells x (by simp [hx])
    rw [List.concat_eq_append] at *
    walk_at "dl"
    have e0 : (List.map W.int pre ++ [W.int c]).isEmpty = false := by cases pre <;> rfl
    rw [if_pos e0]
    have s0 : 0 ≤ seed := g.s0
    have s1 : seed < 2305843009213693952 := g.s1
    split
    · rw [e_pop0 (ws := pre.map W.int) (w := .int c) (by simp)]
      exact ⟨hm, endB (st' := ⟨pre, seed⟩) cl rfl (q ⟨pre, seed⟩ _ ⟨gc, gl, s0, s1⟩ (m1 _) (m2 _))⟩
    · refine ⟨wide_div hm (b := 64) (by omega) (by decide) (by decide), hm, ?_⟩
      have e1 : (pre.map W.int ++ [W.int c]).set pre.length (W.int (c / many)) = (pre ++ [c / many]).map W.int := by
        rw [set_end (by simp)]
        simp
      rw [e1]
      refine endB (st' := ⟨pre ++ [c / many], seed⟩) cl rfl (q ⟨pre ++ [c / many], seed⟩ _ ⟨fun x hx => ?_, by show (pre ++ [_]).length ≤ 100; have := g.len; simp at this ⊢; omega, s0, s1⟩ (m1 _) (m2 _))
      rcases List.mem_append.mp hx with h | h
      · exact gc x h
      · rw [List.mem_singleton.mp h]
        exact Int.ediv_nonneg c0 (by omega)
theorem draw_ok {st : Dr} {R : Sto} {many : Int} {Q : WK} (g : Good st) (h0 : 0 < many) (h1 : many < 18446744073709551616) (k : ∀ st' r, Good st' → 0 ≤ r → r < many → Q (.int r) (B st' R)) : F_draw [.ref 1, .int many] (B st R) Q :=
  ⟨st, R, many, rfl, rfl, g, h0, h1, k⟩

end K92

namespace K92
open PySem PySem.Spec PyProof.Rows L2 TL DL
local macro_rules | `(tactic| walk_at "dl") => `(tactic| try simp (config := { decide := false }) only [e_seq, e_asg, e_nm, e_op, e_un, e_cb, e_c, e_var, e_ifs, e_tru, e_B, e_drop, e_bm, e_bm0, e_ret, e_retN, e_next, e_break, e_cont, e_nil, e_cons, e_tup, e_lst, e_sl, e_onone, e_osome, e_gsub, e_call, e_callk, e_and, e_or, e_not, e_andv, e_orv, e_notv, e_if, e_par, e_for, e_comp, e_iseq, e_rng1, e_yes, e_gtp, e_gc, e_gn0,
  e_addI, e_addS, e_addT, e_addL, e_i20, e_i2, e_neg, e_cmpI, e_cmpS, e_eqI, e_eqS, e_eqB, e_ixT, e_ixLit, e_ixL, e_ixS, e_set, e_slT, e_slLit, e_slS, e_slL, e_lenS, e_lenT, e_lenLit, e_lenL, e_i1, e_intI, e_intB, e_strI, e_strS, e_listT, e_listLit, e_listL, e_tupleT, e_tupleL, e_append, e_pop0, e_tyL, e_tyS, e_truL, e_truT, e_truB, e_truI, e_truS, e_truN, e_seqT, e_seqLit, e_seqL, e_in, e_inT, e_isi,
  atI_0, atI_1, atI_2, atI_3, atI_end, ixN_0, ixN_1, ixN_11, ixN_last, List.map_append, List.map_cons, List.map_nil, get_app, get_app0, set_app, set_app0, List.cons_append, List.nil_append, List.append_assoc, List.length_append, List.length_cons, List.length_nil, Nat.zero_add, List.length_map, List.length_set,
  List.getElem?_cons_zero, List.getElem?_cons_succ, List.set_cons_zero, List.set_cons_succ, Option.some.injEq, exists_eq_left', exists_eq_left, exists_and_left, W.int.injEq, W.bl.injEq, W.str.injEq, W.tup.injEq, W.ref.injEq, O.lst.injEq, List.cons.injEq, reduceCtorEq, false_and, exists_false, or_false, false_or, true_and, and_true, decide_eq_true_eq, Bool.false_xor, Bool.true_xor, Bool.not_eq_true', decide_eq_false_iff_not, List.isEmpty_cons, List.isEmpty_nil, Bool.not_true, Bool.not_false, if_true, if_false, Bool.false_eq_true, reduceIte])
/-! ### _law_spelled -/
def F_spelled : DSpec := fun ws S Q => ∃ n, ws = [.int n] ∧ 0 ≤ n ∧ n < 2037468266496 ∧ Q (.str (spell n)) S
theorem letters_at : ∀ k : Nat, k < 26 → (Str.ofString "abcdefghijklmnopqrstuvwxyz").cps.toList[k]? = some (letter k) := by decide +kernel
theorem signs_at : ∀ k : Nat, k < 36 → (Str.ofString "abcdefghijklmnopqrstuvwxyz0123456789").cps.toList[k]? = some (sign k) := by decide +kernel
theorem at_letters {n : Int} : atI (Str.ofString "abcdefghijklmnopqrstuvwxyz").cps.toList (n % 26) = some (letter (n % 26).toNat) := by
  have h0 : 0 ≤ n % 26 := Int.emod_nonneg _ (by decide)
  have h1 : n % 26 < 26 := Int.emod_lt_of_pos _ (by decide)
  have e : n % 26 = (((n % 26).toNat : Nat) : Int) := by omega
  rw [e]
  exact atI_nat (letters_at _ (by omega))
theorem at_signs {n : Int} : atI (Str.ofString "abcdefghijklmnopqrstuvwxyz0123456789").cps.toList (n % 36) = some (sign (n % 36).toNat) := by
  have h0 : 0 ≤ n % 36 := Int.emod_nonneg _ (by decide)
  have h1 : n % 36 < 36 := Int.emod_lt_of_pos _ (by decide)
  have e : n % 36 = (((n % 36).toNat : Nat) : Int) := by omega
  rw [e]
  exact atI_nat (signs_at _ (by omega))
theorem small_line {n : Nat} (h : n ≤ 100000) : n ≤ sizeLine := Nat.le_trans h (by decide)
theorem small_lt {n : Nat} (h : n < 100000) : n < sizeLine := Nat.lt_of_lt_of_le h (by decide)
theorem vc_spelled : ∀ ws S Q, Closed S → F_spelled ws S Q → d_law_spelled (endsW S.length Q) (startW N_law_spelled.length ws) S := by
  rintro ws S Q cl ⟨n, rfl, h0, h1, q⟩
  show d_law_spelled _ [some (.int n), none, none, none, none] _
  unfold d_law_spelled
  have z0 : (Str.ofString "abcdefghijklmnopqrstuvwxyz").length ≤ sizeLine := by decide +kernel
  have z1 : (Str.ofString "abcdefghijklmnopqrstuvwxyz0123456789").length ≤ sizeLine := by decide +kernel
  have cd : CDivW n 26 := ⟨by decide, by decide⟩
  walk_at "dl"
  refine ⟨by decide, ?_⟩
  rw [e_ixS at_letters]
  refine ⟨z0, ?_⟩
  walk_at "dl"
  refine ⟨cd, ?_⟩
  have hd : n / 26 = ((n.toNat / 26 : Nat) : Int) := by omega
  refine ⟨fun m env S' => S' = S ∧ ∃ acc : Str, env = [some (.int n), some (.str (Str.ofString "abcdefghijklmnopqrstuvwxyz")), some (.str (Str.ofString "abcdefghijklmnopqrstuvwxyz0123456789")), some (.str acc), some (.int (m : Int))] ∧ tl acc ++ dig m = sp n.toNat,
    ⟨n.toNat / 26, rfl, ⟨#[letter (n % 26).toNat]⟩, by rw [hd], ?_⟩, ?_⟩
  · have e : (n % 26).toNat = n.toNat % 26 := by omega
    rw [e]
    rfl
  · rintro m env S' ⟨rfl, acc, rfl, hs⟩
    walk_at "dl"
    have la : acc.length ≤ 8 := by
      have := sp_len (n := n.toNat) (by unfold NM; omega)
      rw [← hs, List.length_append] at this
      rw [len_tl]
      omega
    by_cases hm : (0 : Int) < m
    · rw [if_pos hm, e_ixS at_signs]
      refine ⟨by decide, z1, small_line (by show acc.length + 1 ≤ _; omega), ⟨by decide, by decide⟩, m / 36, by omega, rfl, acc ++ ⟨#[sign ((m : Int) % 36).toNat]⟩, by rw [show (m : Int) / 36 = ((m / 36 : Nat) : Int) by omega]; exact ⟨rfl, rfl⟩, ?_⟩
      rw [tl_append, ← hs]
      have e : ((m : Int) % 36).toNat = m % 36 := by omega
      rw [e, dig_pos (r := m) (by omega)]
      show (tl acc ++ [sign (m % 36)]) ++ dig (m / 36) = _
      rw [List.append_assoc]
      rfl
    · rw [if_neg hm]
      have e : m = 0 := by omega
      subst e
      rw [dig_zero, List.append_nil] at hs
      have e2 : acc = spell n := ext_tl (by rw [spell_tl]; exact hs)
      rw [e2]
      exact Ends0.keep (Nat.le_refl _) cl rfl q
theorem spelled_ok {n : Int} {S : Sto} {Q : WK} (h0 : 0 ≤ n) (h1 : n < 2037468266496) (q : Q (.str (spell n)) S) : F_spelled [.int n] S Q := ⟨n, rfl, h0, h1, q⟩
/-! ### _law_name -/
abbrev stro (xs : List Str) : O := .lst (xs.map W.str)
def F_name : DSpec := fun ws S Q => ∃ st R j names, ws = [.ref 1, .ref (j + 1 + 1)] ∧ S = B st R ∧ R[j]? = some (stro names) ∧ Good st ∧ names.length ≤ 1000 ∧ ∀ st' nm, Good st' → nm.length ≤ 8 → Q (.str nm) (B st' (R.set j (stro (names ++ [nm]))))
theorem flW_strs (xs : List Str) : (xs.map W.str).all flW = true := by
  rw [List.all_map]
  exact List.all_eq_true.mpr fun _ _ => rfl
theorem inW_strs (x : Str) : ∀ xs : List Str, inW (.str x) (xs.map W.str) = decide (x ∈ xs)
  | [] => rfl
  | y :: ys => by
    have ih := inW_strs x ys
    show ((y == x) || inW (.str x) (ys.map W.str)) = _
    rw [ih]
    by_cases h : x = y
    · subst h
      simp
    · have h2 : (y == x) = false := by
        rw [beq_eq_false_iff_ne]
        exact fun e => h e.symm
      rw [h2]
      simp [h]
theorem closed_set {st st' : Dr} {R : Sto} {j : Nat} {o : O} (h : Closed (B st R)) (ho : o.bnd (R.length + 1 + 1) = true) : Closed (B st' (R.set j o)) := by
  have h' := closed_B (st' := st') h
  rw [closed_iff] at h' ⊢
  intro x hx
  have e : (B st' (R.set j o)).length = (B st' R).length := by simp
  rw [e]
  rcases List.mem_cons.mp hx with rfl | hx
  · exact h' _ List.mem_cons_self
  · rcases List.mem_cons.mp hx with rfl | hx
    · exact h' _ (List.mem_cons_of_mem _ List.mem_cons_self)
    · rcases List.mem_or_eq_of_mem_set hx with hx | rfl
      · exact h' x (List.mem_cons_of_mem _ (List.mem_cons_of_mem _ hx))
      · exact ho
theorem vc_name : ∀ ws S Q, Closed S → F_name ws S Q → d_law_name F_draw F_spelled (endsW S.length Q) (startW N_law_name.length ws) S := by
  rintro ws S Q cl ⟨st, R, j, names, rfl, rfl, hj, g, hn, q⟩
  show d_law_name F_draw F_spelled _ [some (.ref 1), some (.ref (j + 1 + 1)), none, none, none, none] _
  unfold d_law_name
  walk_at "dl"
  refine draw_ok g (by decide) (by decide) fun st1 r1 g1 r0 r8 => ⟨r1, rfl, by omega, by omega, ?_⟩
  refine forW_inv (fun i env S' => S' = B st1 R ∧ ∃ x, env = [some (.ref 1), some (.ref (j + 1 + 1)), some (.int (26 * 36 ^ i)), x, none, none] ∧ i ≤ 7) ⟨rfl, none, rfl, by omega⟩ ?_ ?_
  · rintro i x env S' hx ⟨rfl, y, rfl, hi⟩ N hN
    have hl : i < r1.toNat := by
      have := (List.getElem?_eq_some_iff.mp hx).1
      unfold rngW at this
      rw [List.length_map, List.length_range] at this
      exact this
    walk_at "dl"
    refine ⟨.inl (.inr ⟨by decide, by decide⟩), hN _ _ ⟨rfl, some x, ?_, by omega⟩⟩
    rw [Int.pow_succ, Int.mul_assoc]
  · rintro env S' ⟨rfl, y, rfl, hi⟩
    generalize hlen : (rngW 0 r1.toNat).length = i at hi ⊢
    refine ⟨trivial, ?_⟩
    have p0 : (0 : Int) < 26 * 36 ^ i := Int.mul_pos (by decide) (Int.pow_pos (by decide))
    have p1 : (26 : Int) * 36 ^ i ≤ 2037468266496 := by
      have : ∀ i : Nat, i ≤ 7 → (26 : Int) * 36 ^ i ≤ 2037468266496 := by decide +kernel
      exact this i hi
    walk_at "dl"
    refine draw_ok g1 p0 (by omega) fun st2 n g2 n0 n1 => ?_
    walk_at "dl"
    refine spelled_ok n0 (by omega) ?_
    walk_at "dl"
    obtain ⟨k, hk⟩ := fresh names n n0 (by omega)
    have hk' : spell ((n + (k : Int)) % 2037468266496) ∉ names := hk
    refine ⟨fun m env S' => S' = B st2 R ∧ ∃ n : Int, env = [some (.ref 1), some (.ref (j + 1 + 1)), some (.int (26 * 36 ^ i)), y, some (.int n), some (.str (spell n))] ∧ 0 ≤ n ∧ n < 2037468266496 ∧ spell ((n + (m : Int)) % 2037468266496) ∉ names,
      ⟨k, rfl, n, rfl, n0, by omega, hk'⟩, ?_⟩
    rintro m env S' ⟨rfl, n, rfl, n0, n1, hm⟩
    walk_at "dl"
    rw [e_in (ws := names.map W.str) (by simpa using hj)]
    refine ⟨rfl, flW_strs _, _, rfl, ?_⟩
    rw [inW_strs, Bool.false_xor]
    by_cases hin : spell n ∈ names
    · rw [if_pos (by simpa using hin)]
      have hm0 : m ≠ 0 := fun e => by
        subst e
        apply hm
        rw [Int.natCast_zero, Int.add_zero, Int.emod_eq_of_lt n0 n1]
        exact hin
      walk_at "dl"
      refine ⟨by decide, spelled_ok (Int.emod_nonneg _ (by decide)) (Int.emod_lt_of_pos _ (by decide)) ?_⟩
      walk_at "dl"
      refine ⟨m - 1, by omega, (n + 1) % 2037468266496, ⟨rfl, rfl⟩, Int.emod_nonneg _ (by decide), Int.emod_lt_of_pos _ (by decide), ?_⟩
      have e : ((n + 1) % 2037468266496 + ((m - 1 : Nat) : Int)) % 2037468266496 = (n + (m : Int)) % 2037468266496 := by omega
      rw [e]
      exact hm
    · rw [if_neg (by simpa using hin)]
      walk_at "dl"
      refine ⟨.inl ⟨rfl, names.map W.str, by simpa using hj⟩, ?_⟩
      rw [e_append (ws := names.map W.str) (by simpa using hj)]
      refine ⟨small_lt (by rw [List.length_map]; omega), ?_⟩
      have z := q st2 (spell n) g2 (spell_len n0 n1)
      have c : Closed (B st2 (R.set j (stro (names ++ [spell n])))) := closed_set cl (bndL_strs _ _)
      have := Ends0.keep (n := R.length + 1 + 1) (Q := Q) (w := .str (spell n)) (S0 := B st2 (R.set j (stro (names ++ [spell n])))) (by simp) c rfl z
      simpa [stro] using this
theorem name_ok {st : Dr} {R : Sto} {j : Nat} {names : List Str} {Q : WK} (g : Good st) (hj : R[j]? = some (stro names)) (hn : names.length ≤ 1000) (k : ∀ st' nm, Good st' → nm.length ≤ 8 → Q (.str nm) (B st' (R.set j (stro (names ++ [nm]))))) : F_name [.ref 1, .ref (j + 1 + 1)] (B st R) Q :=
  ⟨st, R, j, names, rfl, rfl, hj, g, hn, k⟩
/-! ### _law_value -/
def F_value : DSpec := fun ws S Q => ∃ st R, ws = [.ref 1] ∧ S = B st R ∧ Good st ∧ ∀ st' r, Good st' → 0 ≤ r → r ≤ 1000000000000 → Q (.int r) (B st' R)
theorem p12 : (10 : Int) ^ (12 : Int).toNat = 1000000000000 := by decide +kernel
theorem p18 : (10 : Int) ^ (18 : Int).toNat = 1000000000000000000 := by decide +kernel
theorem cp12 : CPow 10 12 := ⟨by decide, by decide, by decide⟩
theorem cp18 : CPow 10 18 := ⟨by decide, by decide, by decide⟩
theorem vc_value : ∀ ws S Q, Closed S → F_value ws S Q → d_law_value F_draw (endsW S.length Q) (startW N_law_value.length ws) S := by
  rintro ws S Q cl ⟨st, R, rfl, rfl, g, q⟩
  show d_law_value F_draw _ [some (.ref 1), none] _
  unfold d_law_value
  walk_at "dl"
  refine draw_ok g (by decide) (by decide) fun st1 r1 g1 r0 r3 => ?_
  walk_at "dl"
  split
  · exact draw_ok g1 (by decide) (by decide) fun st2 r g2 a b => endB cl rfl (q st2 r g2 a (by omega))
  · split
    · refine ⟨cp12, ?_⟩
      rw [p12]
      refine draw_ok g1 (by decide) (by decide) fun st2 r g2 a b => ?_
      walk_at "dl"
      exact endB cl rfl (q st2 _ g2 (by omega) (by omega))
    · refine ⟨cp12, ?_⟩
      rw [p12]
      exact draw_ok g1 (by decide) (by decide) fun st2 r g2 a b => endB cl rfl (q st2 r g2 a (by omega))
theorem value_ok {st : Dr} {R : Sto} {Q : WK} (g : Good st) (k : ∀ st' r, Good st' → 0 ≤ r → r ≤ 1000000000000 → Q (.int r) (B st' R)) : F_value [.ref 1] (B st R) Q := ⟨st, R, rfl, rfl, g, k⟩
end K92

namespace K92
open PySem PySem.Spec PyProof.Rows L2 TL DL
local macro_rules | `(tactic| walk_at "dl") => `(tactic| try simp (config := { decide := false }) only [e_seq, e_asg, e_nm, e_op, e_un, e_cb, e_c, e_var, e_ifs, e_tru, e_B, e_drop, e_bm, e_bm0, e_ret, e_retN, e_next, e_break, e_cont, e_nil, e_cons, e_tup, e_lst, e_sl, e_onone, e_osome, e_gsub, e_call, e_callk, e_and, e_or, e_not, e_andv, e_orv, e_notv, e_if, e_par, e_for, e_comp, e_iseq, e_rng1, e_yes, e_gtp, e_gc, e_gn0,
  e_addI, e_addS, e_addT, e_addL, e_i20, e_i2, e_neg, e_cmpI, e_cmpS, e_eqI, e_eqS, e_eqB, e_ixT, e_ixLit, e_ixL, e_ixS, e_set, e_slT, e_slLit, e_slS, e_slL, e_lenS, e_lenT, e_lenLit, e_lenL, e_i1, e_intI, e_intB, e_strI, e_strS, e_listT, e_listLit, e_listL, e_tupleT, e_tupleL, e_append, e_pop0, e_tyL, e_tyS, e_truL, e_truT, e_truB, e_truI, e_truS, e_truN, e_seqT, e_seqLit, e_seqL, e_in, e_inT, e_isi, kit_ll, kit_ss, wipeW_nil, wipeW_cons,
  atI_0, atI_1, atI_2, atI_3, atI_end, ixN_0, ixN_1, ixN_11, ixN_last, List.map_append, List.map_cons, List.map_nil, get_app, get_app0, set_app, set_app0, List.cons_append, List.nil_append, List.append_assoc, List.length_append, List.length_cons, List.length_nil, Nat.zero_add, List.length_map, List.length_set,
  List.getElem?_cons_zero, List.getElem?_cons_succ, List.set_cons_zero, List.set_cons_succ, Option.some.injEq, exists_eq_left', exists_eq_left, exists_and_left, W.int.injEq, W.bl.injEq, W.str.injEq, W.tup.injEq, W.ref.injEq, O.lst.injEq, List.cons.injEq, reduceCtorEq, false_and, exists_false, or_false, false_or, true_and, and_true, decide_eq_true_eq, Bool.false_xor, Bool.true_xor, Bool.not_eq_true', decide_eq_false_iff_not, List.isEmpty_cons, List.isEmpty_nil, Bool.not_true, Bool.not_false, if_true, if_false, Bool.false_eq_true, reduceIte])

/-! ### terms -/
def Tm.enc : Tm → DL.W
  | .mark s => .str s
  | .val i => .int i
abbrev encT (ts : List Tm) : DL.W := .tup (ts.map Tm.enc)
def yes : Str := Str.ofString "yes"
def line (ts : List Tm) : Str := if ts.isEmpty then yes else jn (ts.map Tm.txt)
structure OkTs (ts : List Tm) : Prop where
  ok : ∀ t ∈ ts, t.ok
  len : ts.length ≤ 400
theorem str_tm {t : Tm} {S : Sto} {Q : WK} (h : t.ok) (q : Q (.str t.txt) S) : vStrOf [t.enc] S Q := by
  cases t with
  | mark s => exact q
  | val i =>
    obtain ⟨h0, h1⟩ : 0 ≤ i ∧ i ≤ 1000000000000 := h
    refine ⟨?_, q⟩
    have : i.natAbs.log2 < 41 := PySem.Flt.log2_lt_of (by decide) (by omega)
    omega
theorem txts_len {ts : List Tm} (h : OkTs ts) : ∀ s ∈ ts.map Tm.txt, s.length ≤ 13 := fun s hs => by
  obtain ⟨t, ht, rfl⟩ := List.mem_map.mp hs
  exact txt_len (h.ok t ht)
theorem txts_sum {ts : List Tm} (h : OkTs ts) : ((ts.map Tm.txt).map (·.length)).sum + (ts.map Tm.txt).length * (Str.ofString " ").length ≤ 16777216 := by
  have h1 := sum_len (txts_len h)
  have h2 : (Str.ofString " ").length = 1 := by decide +kernel
  have h3 := h.len
  rw [List.length_map] at h1
  rw [h2, List.length_map]
  omega
/-- [str(t) for t in terms] -/
theorem comp_txt {ts : List Tm} {i : Nat} {env : Slots} {S : Sto} {Q : WK} (hi : i < env.length) (h : OkTs ts) (q : Q (.ref S.length) (S ++ [.lst ((ts.map Tm.txt).map W.str)])) :
    compW (gNm i) dYes (dCB vStrOf (aCons (dVar i) aNil)) [i] (fun _ => True) env Q (ts.map Tm.enc) [] S := by
  refine compW_map (r := fun t => .str t.txt) trivial (small_line (by have := h.len; omega)) ?_ (by rw [List.map_map] at q; exact q)
  intro t ht N acc ha hN
  have e : ((wipeW env [i]).set i (some t.enc))[i]? = some (some t.enc) := by
    rw [List.getElem?_set_self (by show i < (env.set i none).length; rw [List.length_set]; exact hi)]
  simp only [e_nm, e_yes, if_true, e_cb, e_cons, e_nil, e_var e]
  exact str_tm (h.ok t ht) ⟨ha, hN⟩
def F_terms : DSpec := fun ws S Q => ∃ ts, ws = [encT ts] ∧ OkTs ts ∧ Q (.str (line ts)) S
theorem vc_terms_line : ∀ ws S Q, Closed S → F_terms ws S Q → d_terms_line (endsW S.length Q) (startW N_terms_line.length ws) S := by
  rintro ws S Q cl ⟨ts, rfl, h, q⟩
  show d_terms_line _ [some (encT ts), none] _
  unfold d_terms_line
  walk_at "dl"
  cases ts with
  | nil =>
    walk_at "dl"
    exact Ends0.keep (Nat.le_refl _) cl rfl q
  | cons t r =>
    walk_at "dl"
    refine comp_txt (ts := t :: r) (by show 1 < 2; decide) h ?_
    refine e_join get_app0 (txts_sum h) ?_
    exact Ends0.drop _ (Nat.le_refl _) cl rfl q
theorem terms_ok {ts : List Tm} {S : Sto} {Q : WK} (h : OkTs ts) (q : Q (.str (line ts)) S) : F_terms [encT ts] S Q := ⟨ts, rfl, h, q⟩
/-! ### rows -/
abbrev encR (rs : List (List Tm)) : DL.W := .tup (rs.map encT)
structure OkRs (rs : List (List Tm)) : Prop where
  ok : ∀ r ∈ rs, OkTs r
  len : rs.length ≤ 400
def F_ansl : DSpec := fun ws S Q => ∃ rs, ws = [encR rs] ∧ OkRs rs ∧ Q (.ref S.length) (S ++ [stro (rs.map line)])
theorem vc_answer_lines : ∀ ws S Q, Closed S → F_ansl ws S Q → d_answer_lines F_terms (endsW S.length Q) (startW N_answer_lines.length ws) S := by
  rintro ws S Q cl ⟨rs, rfl, h, q⟩
  show d_answer_lines F_terms _ [some (encR rs), none] _
  unfold d_answer_lines
  walk_at "dl"
  refine compW_map (r := fun r => .str (line r)) trivial (small_line (by have := h.len; omega)) ?_ ?_
  · intro t ht N acc ha hN
    walk_at "dl"
    exact terms_ok (h.ok t ht) ⟨ha, hN⟩
  · have e : S ++ [O.lst (rs.map fun r => W.str (line r))] = S ++ [stro (rs.map line)] := by
      show _ = S ++ [O.lst ((rs.map line).map W.str)]
      rw [List.map_map]
      rfl
    rw [e]
    exact Ends0.last (k := 0) (Nat.le_refl _) cl rfl (pureL_strs _) q
/-- a question, as far as it is asked for -/
def QOk (w : DL.W) (head : List Tm) : Prop := ∃ g rw_ cs, w = .tup [g, .tup (.tup [encT head, rw_] :: cs)]
def dash : Str := Str.ofString "--"
def table (head : List Tm) (rs : List (List Tm)) : List Str := line head :: dash :: rs.map line
def F_table : DSpec := fun ws S Q => ∃ w head rs, ws = [w, encR rs] ∧ QOk w head ∧ OkTs head ∧ OkRs rs ∧ Q (.ref S.length) (S ++ [stro (table head rs)])
theorem vc_answer_table : ∀ ws S Q, Closed S → F_table ws S Q → d_answer_table F_terms F_ansl (endsW S.length Q) (startW N_answer_table.length ws) S := by
  rintro ws S Q cl ⟨w, head, rs, rfl, ⟨g, rw_, cs, rfl⟩, hh, hr, q⟩
  show d_answer_table F_terms F_ansl _ [some _, some _] _
  unfold d_answer_table
  walk_at "dl"
  refine terms_ok hh ?_
  walk_at "dl"
  refine ⟨by decide, rs, rfl, hr, ?_⟩
  walk_at "dl"
  refine ⟨?_, ?_⟩
  · have := hr.len
    simp
    exact small_line (by omega)
  · have z := Ends0.last (n := S.length) (Q := Q) (S := S) (T := [.lst [W.str (line head), W.str dash], stro (rs.map line), stro (table head rs)]) (k := 2) (Nat.le_refl _) cl rfl (pureL_strs _) q
    simpa [stro, table, dash] using z
theorem table_ok {w : DL.W} {head : List Tm} {rs : List (List Tm)} {S : Sto} {Q : WK} (hq : QOk w head) (hh : OkTs head) (hr : OkRs rs) (q : Q (.ref S.length) (S ++ [stro (table head rs)])) : F_table [w, encR rs] S Q := ⟨w, head, rs, rfl, hq, hh, hr, q⟩
end K92

namespace K92
open PySem PySem.Spec PyProof.Rows L2 TL DL
local macro_rules | `(tactic| walk_at "dl") => `(tactic| try simp (config := { decide := false }) only [e_seq, e_asg, e_nm, e_op, e_un, e_cb, e_c, e_var, e_ifs, e_tru, e_B, e_drop, e_bm, e_bm0, e_ret, e_retN, e_next, e_break, e_cont, e_nil, e_cons, e_tup, e_lst, e_sl, e_onone, e_osome, e_gsub, e_call, e_callk, e_and, e_or, e_not, e_andv, e_orv, e_notv, e_if, e_par, e_for, e_comp, e_iseq, e_rng1, e_yes, e_gtp, e_gc, e_gn0,
  e_addI, e_addS, e_addT, e_addL, e_i20, e_i2, e_neg, e_cmpI, e_cmpS, e_eqI, e_eqS, e_eqB, e_ixT, e_ixLit, e_ixL, e_ixS, e_set, e_slT, e_slLit, e_slS, e_slL, e_lenS, e_lenT, e_lenLit, e_lenL, e_i1, e_intI, e_intB, e_strI, e_strS, e_listT, e_listLit, e_listL, e_tupleT, e_tupleL, e_append, e_pop0, e_tyL, e_tyS, e_truL, e_truT, e_truB, e_truI, e_truS, e_truN, e_seqT, e_seqLit, e_seqL, e_in, e_inT, e_isi, kit_ll, kit_ss, wipeW_nil, wipeW_cons, Nat.reduceAdd, eq_self, List.map_cons, List.map_nil,
  atI_0, atI_1, atI_2, atI_3, atI_end, ixN_0, ixN_1, ixN_11, ixN_last, List.map_append, List.map_cons, List.map_nil, get_app, get_app0, set_app, set_app0, List.cons_append, List.nil_append, List.append_assoc, List.length_append, List.length_cons, List.length_nil, Nat.zero_add, List.length_map, List.length_set,
  List.getElem?_cons_zero, List.getElem?_cons_succ, List.set_cons_zero, List.set_cons_succ, Option.some.injEq, exists_eq_left', exists_eq_left, exists_and_left, W.int.injEq, W.bl.injEq, W.str.injEq, W.tup.injEq, W.ref.injEq, O.lst.injEq, List.cons.injEq, reduceCtorEq, false_and, exists_false, or_false, false_or, true_and, and_true, decide_eq_true_eq, Bool.false_xor, Bool.true_xor, Bool.not_eq_true', decide_eq_false_iff_not, List.isEmpty_cons, List.isEmpty_nil, Bool.not_true, Bool.not_false, if_true, if_false, Bool.false_eq_true, reduceIte])

/-! ### doors -/
structure Door where
  name : Str
  table : Str
  told : List Int
  kind : Str
def Door.enc (d : Door) : DL.W := .tup [.str d.name, .str d.table, .tup (d.told.map W.int), .str d.kind]
structure Door.ok (d : Door) : Prop where
  n : d.name.length ≤ 8
  t : d.table.length ≤ 8
  k : d.kind.length ≤ 8
  l : d.told.length ≤ 4
  v : ∀ c ∈ d.told, 0 ≤ c ∧ c ≤ 1000000000000
def Door.terms (d : Door) : List Tm := .mark d.name :: .mark d.kind :: .mark d.table :: d.told.map Tm.val
def Door.line (d : Door) : Str := K92.line d.terms
theorem Door.okT {d : Door} (h : d.ok) : OkTs d.terms := by
  refine ⟨fun t ht => ?_, ?_⟩
  · rcases List.mem_cons.mp ht with rfl | ht
    · exact h.n
    · rcases List.mem_cons.mp ht with rfl | ht
      · exact h.k
      · rcases List.mem_cons.mp ht with rfl | ht
        · exact h.t
        · obtain ⟨c, hc, rfl⟩ := List.mem_map.mp ht
          exact h.v c hc
  · have := h.l
    show (d.told.map Tm.val).length + 1 + 1 + 1 ≤ 400
    rw [List.length_map]
    omega
def HOk (w : DL.W) (ds : List Door) : Prop := ∃ a b c d e, w = .tup [a, b, .tup (ds.map Door.enc), c, d, e]
structure OkDs (ds : List Door) : Prop where
  ok : ∀ d ∈ ds, d.ok
  len : ds.length ≤ 400
def F_doors : DSpec := fun ws S Q => ∃ w ds, ws = [w] ∧ HOk w ds ∧ OkDs ds ∧ Q (.ref S.length) (S ++ [stro (ds.map Door.line)])
/-- ahead of turn i: the lines so far, whatever stands behind them -/
def Inv1 {α : Type} (S : Sto) (f : α → Str) (xs : List α) (i : Nat) (S' : Sto) : Prop := ∃ G, S' = S ++ (stro ((xs.take i).map f) :: G)
theorem take_one {α : Type} {f : α → Str} {xs : List α} {i : Nat} {x : α} (h : xs[i]? = some x) : (((xs.take i).map f).map W.str ++ [W.str (f x)]) = ((xs.take (i + 1)).map f).map W.str := by
  rw [List.take_add_one, h, List.map_append, List.map_append]
  rfl
theorem vc_door_table : ∀ ws S Q, Closed S → F_doors ws S Q → d_door_table (endsW S.length Q) (startW N_door_table.length ws) S := by
  rintro ws S Q cl ⟨w, ds, rfl, ⟨a, b, c, d, e, rfl⟩, h, q⟩
  show d_door_table _ [some _, none, none, none, none, none, none] _
  unfold d_door_table
  walk_at "dl"
  refine ⟨Nat.zero_le _, ?_⟩
  refine forW_inv (fun i env S' => Inv1 S Door.line ds i S' ∧ ∃ x2 x3 x4 x5, env = [some (.tup [a, b, .tup (ds.map Door.enc), c, d, e]), some (.ref S.length), x2, x3, x4, x5, none]) ⟨⟨[], rfl⟩, _, _, _, _, rfl⟩ ?_ ?_
  · rintro i x env S' hx ⟨⟨G, rfl⟩, x2, x3, x4, x5, rfl⟩ N hN
    rw [List.getElem?_map] at hx
    cases hd : ds[i]? with
    | none => rw [hd] at hx; cases hx
    | some dr =>
      rw [hd] at hx
      have e : W.tup [.str dr.name, .str dr.table, .tup (dr.told.map W.int), .str dr.kind] = x := Option.some.inj hx
      subst e
      have ok := h.ok dr (List.mem_of_getElem? hd)
      refine ⟨trivial, ?_⟩
      walk_at "dl"
      refine ⟨by decide, ?_⟩
      have okv : OkTs (dr.told.map Tm.val) := ⟨fun t ht => (Door.okT ok).ok t (List.mem_cons_of_mem _ (List.mem_cons_of_mem _ (List.mem_cons_of_mem _ ht))), by rw [List.length_map]; have := ok.l; omega⟩
      have e3 : dr.told.map W.int = (dr.told.map Tm.val).map Tm.enc := by
        rw [List.map_map]
        rfl
      rw [e3]
      refine comp_txt (by show 6 < 7; decide) okv ?_
      walk_at "dl"
      refine ⟨small_line (by have := ok.l; omega), ?_⟩
      refine e_join (ys := dr.terms.map Tm.txt) ?_ (txts_sum (Door.okT ok)) ?_
      · rw [show S.length + (G.length + 1 + 1 + 1) = S.length + (G.length + 3) by omega, get_app, List.getElem?_cons_succ, get_app]
        rfl
      · walk_at "dl"
        refine ⟨small_lt (by have := h.len; rw [List.length_take]; omega), ?_⟩
        have e4 : Txt.join (Str.ofString " ") (dr.terms.map Tm.txt) = dr.line := rfl
        rw [e4, take_one hd]
        exact hN _ _ ⟨⟨_, rfl⟩, _, _, _, _, rfl⟩
  · rintro env S' ⟨⟨G, rfl⟩, x2, x3, x4, x5, rfl⟩
    refine ⟨trivial, ?_⟩
    rw [List.length_map, List.take_length]
    walk_at "dl"
    exact Ends0.last (k := 0) (Nat.le_refl _) cl rfl (pureL_strs _) q
theorem doors_ok {w : DL.W} {ds : List Door} {S : Sto} {Q : WK} (hw : HOk w ds) (h : OkDs ds) (q : Q (.ref S.length) (S ++ [stro (ds.map Door.line)])) : F_doors [w] S Q := ⟨w, ds, rfl, hw, h, q⟩
/-! ### lots -/
def nothing : Str := Str.ofString "nothing"
def lotLine (l : List Str) : Str := if l.isEmpty then nothing else jn l
structure OkLs (ls : List (List Str)) : Prop where
  ok : ∀ l ∈ ls, OkTs (l.map Tm.mark)
  len : ls.length ≤ 400
abbrev encL (ls : List (List Str)) : DL.W := .tup (ls.map fun l => .tup (l.map W.str))
def F_lots : DSpec := fun ws S Q => ∃ ls, ws = [encL ls] ∧ OkLs ls ∧ Q (.ref S.length) (S ++ [stro (ls.map lotLine)])
theorem marks_txt (l : List Str) : (l.map Tm.mark).map Tm.txt = l := by
  rw [List.map_map]
  exact List.map_id l
theorem vc_lot_lines : ∀ ws S Q, Closed S → F_lots ws S Q → d_lot_lines (endsW S.length Q) (startW N_lot_lines.length ws) S := by
  rintro ws S Q cl ⟨ls, rfl, h, q⟩
  show d_lot_lines _ [some _, none] _
  unfold d_lot_lines
  walk_at "dl"
  refine compW_map (r := fun l => .str (lotLine l)) trivial (small_line (by have := h.len; omega)) ?_ ?_
  · intro l hl N acc ha hN
    have ok := h.ok l hl
    have z := txts_sum ok
    rw [marks_txt] at z
    cases l with
    | nil =>
      walk_at "dl"
      exact ⟨ha, hN⟩
    | cons x r =>
      walk_at "dl"
      exact ⟨x :: r, rfl, z, ha, hN⟩
  · have e : S ++ [O.lst (ls.map fun r => W.str (lotLine r))] = S ++ [stro (ls.map lotLine)] := by
      show _ = S ++ [O.lst ((ls.map lotLine).map W.str)]
      rw [List.map_map]
      rfl
    rw [e]
    exact Ends0.last (k := 0) (Nat.le_refl _) cl rfl (pureL_strs _) q
theorem lots_ok {ls : List (List Str)} {S : Sto} {Q : WK} (h : OkLs ls) (q : Q (.ref S.length) (S ++ [stro (ls.map lotLine)])) : F_lots [encL ls] S Q := ⟨ls, rfl, h, q⟩
/-! ### the law's own lines -/
def F_lterms : DSpec := fun ws S Q => ∃ ts, ws = [encT ts] ∧ OkTs ts ∧ Q (.str (jn (ts.map Tm.txt))) S
theorem vc_law_terms : ∀ ws S Q, Closed S → F_lterms ws S Q → d_law_terms_line (endsW S.length Q) (startW N_law_terms_line.length ws) S := by
  rintro ws S Q cl ⟨ts, rfl, h, q⟩
  show d_law_terms_line _ [some _, none, none] _
  unfold d_law_terms_line
  walk_at "dl"
  have hl : ∀ s ∈ ts.map Tm.txt, s.length ≤ 13 := txts_len h
  have bound : ∀ (acc : Str) (i : Nat), tl acc = run ((ts.map Tm.txt).take i) → acc.length ≤ 5600 := fun acc i e => by
    have := run_len (ts := (ts.map Tm.txt).take i) (b := 13) fun t ht => hl t (List.mem_of_mem_take ht)
    rw [len_tl, e]
    have l2 : ((ts.map Tm.txt).take i).length ≤ 400 := by
      rw [List.length_take, List.length_map]
      have := h.len
      omega
    omega
  refine forW_inv (fun i env S' => S' = S ∧ ∃ acc x, env = [some (encT ts), some (.str acc), x] ∧ tl acc = run ((ts.map Tm.txt).take i)) ⟨rfl, _, _, rfl, (show tl (Str.ofString "") = [] by decide +kernel)⟩ ?_ ?_
  · rintro i x env S' hx ⟨rfl, acc, y, rfl, ha⟩ N hN
    rw [List.getElem?_map] at hx
    cases ht : ts[i]? with
    | none => rw [ht] at hx; cases hx
    | some t =>
      rw [ht] at hx
      have e : t.enc = x := Option.some.inj hx
      subst e
      have ok := h.ok t (List.mem_of_getElem? ht)
      have b1 := bound acc i ha
      have b2 := txt_len ok
      have e1 : (Str.ofString " ").length = 1 := by decide +kernel
      refine ⟨trivial, ?_⟩
      walk_at "dl"
      refine ⟨small_line (by rw [e1]; omega), str_tm ok ?_⟩
      walk_at "dl"
      have e2 : (acc ++ Str.ofString " ").length = acc.length + 1 := by rw [len_tl, tl_append, List.length_append, ← len_tl, ← len_tl, e1]
      refine ⟨small_line (by rw [e2]; omega), hN _ _ ⟨rfl, _, _, rfl, ?_⟩⟩
      rw [tl_append, tl_append, ha, List.take_add_one, List.getElem?_map, ht]
      show _ = run (_ ++ [t.txt])
      rw [run_snoc, List.append_assoc]
      have e3 : tl (Str.ofString " ") = [32] := tl_sp1
      rw [e3]
      rfl
  · rintro env S' ⟨rfl, acc, y, rfl, ha⟩
    refine ⟨trivial, ?_⟩
    have b1 := bound acc _ ha
    walk_at "dl"
    refine ⟨small_line (by omega), ?_⟩
    rw [List.length_map, ← List.length_map (f := Tm.txt) (as := ts), List.take_length] at ha
    rw [cut_run ha]
    exact Ends0.keep (Nat.le_refl _) cl rfl q
theorem lterms_ok {ts : List Tm} {S : Sto} {Q : WK} (h : OkTs ts) (q : Q (.str (jn (ts.map Tm.txt))) S) : F_lterms [encT ts] S Q := ⟨ts, rfl, h, q⟩
theorem vc_law_doors : ∀ ws S Q, Closed S → F_doors ws S Q → d_law_door_lines F_lterms (endsW S.length Q) (startW N_law_door_lines.length ws) S := by
  rintro ws S Q cl ⟨w, ds, rfl, ⟨a, b, c, d, e, rfl⟩, h, q⟩
  show d_law_door_lines F_lterms _ [some _, none, none, none, none, none] _
  unfold d_law_door_lines
  walk_at "dl"
  refine ⟨Nat.zero_le _, ?_⟩
  refine forW_inv (fun i env S' => S' = S ++ [stro ((ds.take i).map Door.line)] ∧ ∃ x2 x3 x4 x5, env = [some (.tup [a, b, .tup (ds.map Door.enc), c, d, e]), some (.ref S.length), x2, x3, x4, x5]) ⟨rfl, _, _, _, _, rfl⟩ ?_ ?_
  · rintro i x env S' hx ⟨rfl, x2, x3, x4, x5, rfl⟩ N hN
    rw [List.getElem?_map] at hx
    cases hd : ds[i]? with
    | none => rw [hd] at hx; cases hx
    | some dr =>
      rw [hd] at hx
      have e : W.tup [.str dr.name, .str dr.table, .tup (dr.told.map W.int), .str dr.kind] = x := Option.some.inj hx
      subst e
      have ok := h.ok dr (List.mem_of_getElem? hd)
      refine ⟨trivial, ?_⟩
      walk_at "dl"
      refine ⟨by decide, small_line (by have := ok.l; omega), ?_⟩
      have e3 : W.tup (W.str dr.name :: W.str dr.kind :: W.str dr.table :: dr.told.map W.int) = encT dr.terms := by
        show _ = W.tup (W.str dr.name :: W.str dr.kind :: W.str dr.table :: (dr.told.map Tm.val).map Tm.enc)
        rw [List.map_map]
        rfl
      rw [e3]
      refine lterms_ok (Door.okT ok) ?_
      walk_at "dl"
      refine ⟨small_lt (by have := h.len; rw [List.length_take]; omega), hN _ _ ⟨?_, _, _, _, _, rfl⟩⟩
      have e4 : jn (dr.terms.map Tm.txt) = dr.line := rfl
      rw [e4, take_one hd]
  · rintro env S' ⟨rfl, x2, x3, x4, x5, rfl⟩
    refine ⟨trivial, ?_⟩
    rw [List.length_map, List.take_length]
    walk_at "dl"
    exact Ends0.last (k := 0) (Nat.le_refl _) cl rfl (pureL_strs _) q
theorem vc_law_lots : ∀ ws S Q, Closed S → F_lots ws S Q → d_law_lot_lines F_lterms (endsW S.length Q) (startW N_law_lot_lines.length ws) S := by
  rintro ws S Q cl ⟨ls, rfl, h, q⟩
  show d_law_lot_lines F_lterms _ [some _, none, none, none] _
  unfold d_law_lot_lines
  walk_at "dl"
  refine ⟨Nat.zero_le _, ?_⟩
  refine forW_inv (fun i env S' => S' = S ++ [stro ((ls.take i).map lotLine)] ∧ ∃ x2 x3, env = [some (encL ls), some (.ref S.length), x2, x3]) ⟨rfl, _, _, rfl⟩ ?_ ?_
  · rintro i x env S' hx ⟨rfl, x2, x3, rfl⟩ N hN
    rw [List.getElem?_map] at hx
    cases hd : ls[i]? with
    | none => rw [hd] at hx; cases hx
    | some l =>
      rw [hd] at hx
      have e : W.tup (l.map W.str) = x := Option.some.inj hx
      subst e
      have ok := h.ok l (List.mem_of_getElem? hd)
      have e3 : W.tup (l.map W.str) = encT (l.map Tm.mark) := by
        show _ = W.tup ((l.map Tm.mark).map Tm.enc)
        rw [List.map_map]
        rfl
      refine ⟨trivial, ?_⟩
      walk_at "dl"
      rw [e3]
      refine lterms_ok ok ?_
      rw [← e3, marks_txt]
      have hz : ((ls.take i).map lotLine).length < sizeLine := small_lt (by have := h.len; rw [List.length_map, List.length_take]; omega)
      have t1 := take_one (f := lotLine) hd
      cases l with
      | nil =>
        walk_at "dl"
        refine ⟨by simpa using hz, hN _ _ ⟨?_, _, _, rfl⟩⟩
        exact congrArg (fun z => S ++ [O.lst z]) t1
      | cons y r =>
        walk_at "dl"
        refine ⟨by simpa using hz, hN _ _ ⟨?_, _, _, rfl⟩⟩
        exact congrArg (fun z => S ++ [O.lst z]) t1
  · rintro env S' ⟨rfl, x2, x3, rfl⟩
    refine ⟨trivial, ?_⟩
    rw [List.length_map, List.take_length]
    walk_at "dl"
    exact Ends0.last (k := 0) (Nat.le_refl _) cl rfl (pureL_strs _) q
end K92

namespace K92
open PySem PySem.Spec PyProof.Rows L2 TL DL
local macro_rules | `(tactic| walk_at "dl") => `(tactic| try simp (config := { decide := false }) only [e_seq, e_asg, e_nm, e_op, e_un, e_cb, e_c, e_var, e_ifs, e_tru, e_B, e_drop, e_bm, e_bm0, e_ret, e_retN, e_next, e_break, e_cont, e_nil, e_cons, e_tup, e_lst, e_sl, e_onone, e_osome, e_gsub, e_call, e_callk, e_and, e_or, e_not, e_andv, e_orv, e_notv, e_if, e_par, e_for, e_comp, e_iseq, e_rng1, e_yes, e_gtp, e_gc, e_gn0,
  e_addI, e_addS, e_addT, e_addL, e_i20, e_i2, e_neg, e_cmpI, e_cmpS, e_eqI, e_eqS, e_eqB, e_ixT, e_ixLit, e_ixL, e_ixS, e_set, e_slT, e_slLit, e_slS, e_slL, e_lenS, e_lenT, e_lenLit, e_lenL, e_i1, e_intI, e_intB, e_strI, e_strS, e_listT, e_listLit, e_listL, e_tupleT, e_tupleL, e_append, e_pop0, e_tyL, e_tyS, e_truL, e_truT, e_truB, e_truI, e_truS, e_truN, e_seqT, e_seqLit, e_seqL, e_in, e_inT, e_isi, kit_ll, kit_ss, tyW_L, tyW_S, tyW_T, tyW_I, tyW_B, cut_to1, cut_to2, cut_from1, wipeW_nil, wipeW_cons, Nat.reduceAdd, eq_self, List.map_cons, List.map_nil,
  atI_0, atI_1, atI_2, atI_3, atI_end, ixN_0, ixN_1, ixN_11, ixN_last, List.map_append, List.map_cons, List.map_nil, get_app, get_app0, set_app, set_app0, List.cons_append, List.nil_append, List.append_assoc, List.length_append, List.length_cons, List.length_nil, Nat.zero_add, List.length_map, List.length_set,
  List.getElem?_cons_zero, List.getElem?_cons_succ, List.set_cons_zero, List.set_cons_succ, Option.some.injEq, exists_eq_left', exists_eq_left, exists_and_left, W.int.injEq, W.bl.injEq, W.str.injEq, W.tup.injEq, W.ref.injEq, O.lst.injEq, List.cons.injEq, reduceCtorEq, false_and, exists_false, or_false, false_or, true_and, and_true, decide_eq_true_eq, Bool.false_xor, Bool.true_xor, Bool.not_eq_true', decide_eq_false_iff_not, List.isEmpty_cons, List.isEmpty_nil, Bool.not_true, Bool.not_false, if_true, if_false, not_true_eq_false, not_false_eq_true, ne_eq, Bool.false_eq_true, reduceIte])

theorem vc_law_answer : ∀ ws S Q, Closed S → F_table ws S Q → d_law_answer_lines F_lterms (endsW S.length Q) (startW N_law_answer_lines.length ws) S := by
  rintro ws S Q cl ⟨w, head, rs, rfl, ⟨g, rw_, cs, rfl⟩, hh, hr, q⟩
  show d_law_answer_lines F_lterms _ [some _, some _, none, none, none] _
  unfold d_law_answer_lines
  have lr := hr.len
  walk_at "dl"
  refine ⟨Nat.zero_le _, by decide, small_line (by omega), ?_⟩
  have e0 : (W.tup (List.map Tm.enc head) :: rs.map encT) = (head :: rs).map encT := rfl
  rw [e0]
  have okc : ∀ r ∈ head :: rs, OkTs r := fun r h => by
    rcases List.mem_cons.mp h with rfl | h
    · exact hh
    · exact hr.ok r h
  refine forW_inv (fun i env S' => S' = S ++ [stro (((head :: rs).take i).map line), O.lst [encT head], O.lst (rs.map encT), O.lst ((head :: rs).map encT)] ∧ ∃ x3 x4, env = [some (.tup [g, .tup (.tup [encT head, rw_] :: cs)]), some (encR rs), some (.ref S.length), x3, x4]) ⟨rfl, _, _, rfl⟩ ?_ ?_
  · rintro i x env S' hx ⟨rfl, x3, x4, rfl⟩ N hN
    rw [List.getElem?_map] at hx
    cases hd : (head :: rs)[i]? with
    | none => rw [hd] at hx; cases hx
    | some ts =>
      rw [hd] at hx
      have e : encT ts = x := Option.some.inj hx
      subst e
      have ok := okc ts (List.mem_of_getElem? hd)
      have t1 := take_one (f := line) hd
      have hz : (((head :: rs).take i).map line).length < sizeLine := small_lt (by rw [List.length_map, List.length_take, List.length_cons]; omega)
      refine ⟨by rw [show S.length + 1 + 1 + 1 = S.length + 3 by omega, get_app]; rfl, ?_⟩
      walk_at "dl"
      refine lterms_ok ok ?_
      cases ts with
      | nil =>
        walk_at "dl"
        refine ⟨by simpa using hz, hN _ _ ⟨?_, _, _, rfl⟩⟩
        exact congrArg (fun z => S ++ [O.lst z, O.lst [encT head], O.lst (rs.map encT), O.lst ((head :: rs).map encT)]) t1
      | cons t r =>
        walk_at "dl"
        refine ⟨by simpa using hz, hN _ _ ⟨?_, _, _, rfl⟩⟩
        exact congrArg (fun z => S ++ [O.lst z, O.lst [encT head], O.lst (rs.map encT), O.lst ((head :: rs).map encT)]) t1
  · rintro env S' ⟨rfl, x3, x4, rfl⟩
    refine ⟨by rw [show S.length + 1 + 1 + 1 = S.length + 3 by omega, get_app]; rfl, ?_⟩
    rw [List.length_map, List.take_length]
    walk_at "dl"
    refine ⟨by decide, by decide, small_line (by omega), ?_⟩
    have z := Ends0.last (n := S.length) (Q := Q) (S := S) (T := [O.lst (W.str (line head) :: (rs.map line).map W.str), O.lst [encT head], O.lst (rs.map encT), O.lst ((head :: rs).map encT), O.lst [W.str (line head)], O.lst [W.str dash], O.lst [W.str (line head), W.str dash], O.lst ((rs.map line).map W.str), stro (table head rs)]) (k := 8) (Nat.le_refl _) cl rfl (pureL_strs _) q
    exact z
/-! ### _law_lines -/
def F_llines : DSpec := fun ws S Q => ∃ i j a, ws = [.ref i, .ref j] ∧ S[i]? = some (stro a) ∧ S[j]? = some (stro a) ∧ a.length ≤ 1000 ∧ Q (.bl true) S
theorem vc_law_lines : ∀ ws S Q, Closed S → F_llines ws S Q → d_law_lines (endsW S.length Q) (startW N_law_lines.length ws) S := by
  rintro ws S Q cl ⟨i, j, a, rfl, h1, h2, ha, q⟩
  show d_law_lines _ [some (.ref i), some (.ref j), none] _
  unfold d_law_lines
  walk_at "dl"
  rw [e_isi (tyW_L h1) kit_ll]
  walk_at "dl"
  rw [e_lenL h1]
  walk_at "dl"
  rw [e_lenL h2]
  walk_at "dl"
  rw [e_lenL h2]
  walk_at "dl"
  refine ⟨by omega, by omega, ?_⟩
  refine forW_inv (fun k env S' => S' = S ∧ ∃ x, env = [some (.ref i), some (.ref j), x]) ⟨rfl, _, rfl⟩ ?_ ?_
  · rintro k x env S' hx ⟨rfl, y, rfl⟩ N hN
    have hk : k < a.length ∧ x = .int (k : Int) := by
      unfold rngW at hx
      rw [List.getElem?_map] at hx
      by_cases h : k < a.length
      · rw [List.getElem?_range (by simpa using h)] at hx
        refine ⟨h, ?_⟩
        have := Option.some.inj hx
        rw [← this]
        simp
      · rw [List.getElem?_eq_none (by simpa using h)] at hx
        cases hx
    obtain ⟨hk, rfl⟩ := hk
    have e : atI (a.map W.str) (k : Int) = some (.str a[k]) := atI_nat (by rw [List.getElem?_map, List.getElem?_eq_getElem hk]; rfl)
    refine ⟨trivial, ?_⟩
    walk_at "dl"
    rw [e_ixL h1 e]
    walk_at "dl"
    rw [e_ixL h1 e]
    walk_at "dl"
    rw [e_ixL h2 e]
    walk_at "dl"
    exact hN _ _ ⟨rfl, _, rfl⟩
  · rintro env S' ⟨rfl, x, rfl⟩
    exact ⟨trivial, Ends0.keep (Nat.le_refl _) cl rfl q⟩
theorem llines_ok {i j : Nat} {a : List Str} {S : Sto} {Q : WK} (h1 : S[i]? = some (stro a)) (h2 : S[j]? = some (stro a)) (ha : a.length ≤ 1000) (q : Q (.bl true) S) : F_llines [.ref i, .ref j] S Q := ⟨i, j, a, rfl, h1, h2, ha, q⟩
/-! ### _law_state -/
def F_state : DSpec := fun ws S Q => ∃ ns : List Int, ws = [.lit (ns.map W.int)] ∧ S = [] ∧ ns.length ≤ 63 ∧ ∀ st, Good st → Q (.ref 1) (B st [])
theorem vc_state : ∀ ws S Q, Closed S → F_state ws S Q → d_law_state (endsW S.length Q) (startW N_law_state.length ws) S := by
  rintro ws S Q cl ⟨ns, rfl, rfl, hl, q⟩
  show d_law_state _ [some _, none, none, none, none] _
  unfold d_law_state
  walk_at "dl"
  refine ⟨Nat.zero_le _, ?_⟩
  refine forW_inv (fun i env S' => ∃ c cells seed x3 x4, env = [some (.lit (ns.map W.int)), some (.ref c), some (.int seed), x3, x4] ∧ S'[c]? = some (.lst (cells.map W.int)) ∧ (∀ z ∈ cells, (0 : Int) ≤ z) ∧ cells.length ≤ i ∧ 0 ≤ seed ∧ seed < 2305843009213693951)
    ⟨0, [], 9203, none, none, rfl, rfl, (by intro z h; cases h), Nat.le_refl _, by decide, by decide⟩ ?_ ?_
  · rintro i x env S' hx ⟨c, cells, seed, x3, x4, rfl, hc, hz, hlen, s0, s1⟩ N hN
    have hi : i < ns.length := by
      have := (List.getElem?_eq_some_iff.mp hx).1
      rwa [List.length_map] at this
    rw [List.getElem?_map] at hx
    cases hn : ns[i]? with
    | none => rw [hn] at hx; cases hx
    | some n =>
      rw [hn] at hx
      have e : W.int n = x := Option.some.inj hx
      subst e
      refine ⟨trivial, ?_⟩
      walk_at "dl"
      have a0 : (0 : Int) ≤ if n < 0 then -n else n := by split <;> omega
      generalize (if n < 0 then -n else n) = m at a0 ⊢
      refine ⟨.inl (.inl ⟨by omega, by omega⟩), by decide, cp18, ?_⟩
      generalize hw : (seed * 7664345821815920749 + m + 4354685564936845) % 2305843009213693951 = sd
      have w0 : 0 ≤ sd := by rw [← hw]; exact Int.emod_nonneg _ (by decide)
      have w1 : sd < 2305843009213693951 := by rw [← hw]; exact Int.emod_lt_of_pos _ (by decide)
      split
      · refine ⟨by decide, ?_⟩
        have hlc : c < S'.length := (List.getElem?_eq_some_iff.mp hc).1
        rw [e_addL (a := [.int m]) (b := cells.map W.int) get_app0 (by rw [List.getElem?_append_left hlc]; exact hc)]
        refine ⟨small_line (by rw [List.length_map]; show 1 + _ ≤ _; omega), ?_⟩
        refine hN _ _ ⟨_, m :: cells, sd, _, _, rfl, ?_, fun z hzz => ?_, by rw [List.length_cons]; omega, w0, w1⟩
        · rw [get_app0]
          rfl
        · rcases List.mem_cons.mp hzz with rfl | h
          · exact a0
          · exact hz z h
      · exact hN _ _ ⟨c, cells, sd, _, _, rfl, hc, hz, by omega, w0, w1⟩
  · rintro env S' ⟨c, cells, seed, x3, x4, rfl, hc, hz, hlen, s0, s1⟩
    rw [List.length_map] at hlen
    refine ⟨trivial, ?_⟩
    walk_at "dl"
    refine ⟨by decide, ?_⟩
    have hlc : c < S'.length := (List.getElem?_eq_some_iff.mp hc).1
    have good : Good ⟨cells, seed + 1⟩ := ⟨hz, by show cells.length ≤ 100; omega, by show 0 ≤ seed + 1; omega, by show seed + 1 < _; omega⟩
    refine ⟨[c, S'.length], B ⟨cells, seed + 1⟩ [], .ref 1, rfl, fun i h => absurd h (Nat.not_lt_zero _), ?_, ?_, rfl, rfl, q _ good⟩
    · simp
      omega
    · intro i o ho
      match i, ho with
      | 0, ho =>
        cases Option.some.inj ho
        refine ⟨bndL_ints _ _, c, rfl, ?_⟩
        rw [List.getElem?_append_left hlc, hc]
        show _ = some (O.lst (W.renL _ _))
        rw [renL_pure _ _ (pureL_ints _)]
      | 1, ho =>
        cases Option.some.inj ho
        exact ⟨rfl, S'.length, rfl, get_app0⟩
      | k + 2, ho => cases ho
end K92

namespace K92
open PySem PySem.Spec PyProof.Rows L2 TL DL
local macro_rules | `(tactic| walk_at "dl") => `(tactic| try simp (config := { decide := false }) only [e_seq, e_asg, e_nm, e_op, e_un, e_cb, e_c, e_var, e_ifs, e_tru, e_B, e_drop, e_bm, e_bm0, e_ret, e_retN, e_next, e_break, e_cont, e_nil, e_cons, e_tup, e_lst, e_sl, e_onone, e_osome, e_gsub, e_call, e_callk, e_and, e_or, e_not, e_andv, e_orv, e_notv, e_if, e_par, e_for, e_comp, e_iseq, e_rng1, e_yes, e_gtp, e_gc, e_gn0,
  e_addI, e_addS, e_addT, e_addL, e_i20, e_i2, e_neg, e_cmpI, e_cmpS, e_eqI, e_eqS, e_eqB, e_ixT, e_ixLit, e_ixL, e_ixS, e_set, e_slT, e_slLit, e_slS, e_slL, e_lenS, e_lenT, e_lenLit, e_lenL, e_i1, e_intI, e_intB, e_strI, e_strS, e_listT, e_listLit, e_listL, e_tupleT, e_tupleL, e_append, e_pop0, e_tyL, e_tyS, e_truL, e_truT, e_truB, e_truI, e_truS, e_truN, e_seqT, e_seqLit, e_seqL, e_in, e_inT, e_isi, kit_ll, kit_ss, tyW_L, tyW_S, tyW_T, tyW_I, tyW_B, cut_to1, cut_to2, cut_from1, wipeW_nil, wipeW_cons, Nat.reduceAdd, eq_self, List.map_cons, List.map_nil,
  atI_0, atI_1, atI_2, atI_3, atI_end, ixN_0, ixN_1, ixN_11, ixN_last, List.map_append, List.map_cons, List.map_nil, get_app, get_app0, set_app, set_app0, List.cons_append, List.nil_append, List.append_assoc, List.length_append, List.length_cons, List.length_nil, Nat.zero_add, List.length_map, List.length_set,
  List.getElem?_cons_zero, List.getElem?_cons_succ, List.set_cons_zero, List.set_cons_succ, Option.some.injEq, exists_eq_left', exists_eq_left, exists_and_left, W.int.injEq, W.bl.injEq, W.str.injEq, W.tup.injEq, W.ref.injEq, O.lst.injEq, List.cons.injEq, reduceCtorEq, false_and, exists_false, or_false, false_or, true_and, and_true, decide_eq_true_eq, Bool.false_xor, Bool.true_xor, Bool.not_eq_true', decide_eq_false_iff_not, List.isEmpty_cons, List.isEmpty_nil, Bool.not_true, Bool.not_false, if_true, if_false, not_true_eq_false, not_false_eq_true, ne_eq, Bool.false_eq_true, reduceIte])

/-! ### _law_tables -/
theorem rng_get {n i : Nat} {x : DL.W} (h : (rngW 0 n)[i]? = some x) : i < n ∧ x = .int (i : Int) := by
  unfold rngW at h
  rw [List.getElem?_map] at h
  by_cases hi : i < n
  · rw [List.getElem?_range hi] at h
    refine ⟨hi, ?_⟩
    have := Option.some.inj h
    rw [← this]
    simp
  · rw [List.getElem?_eq_none (by simpa using hi)] at h
    cases h
theorem rng_len {lo : Int} {n : Nat} : (rngW lo n).length = n := by
  unfold rngW
  rw [List.length_map, List.length_range]
theorem at_map {α : Type} {f : α → DL.W} {xs : List α} {r : Int} (h0 : 0 ≤ r) (h1 : r < xs.length) : ∃ x, x ∈ xs ∧ atI (xs.map f) r = some (f x) := by
  have hl : r.toNat < xs.length := by omega
  refine ⟨xs[r.toNat], List.getElem_mem hl, ?_⟩
  have e : r = ((r.toNat : Nat) : Int) := by omega
  exact (congrArg (atI (xs.map f)) e).trans (atI_nat (by rw [List.getElem?_map]; simp [hl]))
theorem closed_BR {st : Dr} {R : Sto} (h : ∀ o ∈ R, o.bnd (R.length + 1 + 1) = true) : Closed (B st R) := by
  rw [closed_iff]
  intro o ho
  rcases List.mem_cons.mp ho with rfl | ho
  · exact bndL_ints _ _
  · rcases List.mem_cons.mp ho with rfl | ho
    · show (decide (0 < R.length + 1 + 1) && (true && true)) = true
      simp
    · exact h o ho
abbrev Tab := Str × Int
def Tab.enc (t : Tab) : DL.W := .tup [.str t.1, .int t.2]
structure OkTab (t : Tab) : Prop where
  n : t.1.length ≤ 8
  w0 : 1 ≤ t.2
  w1 : t.2 ≤ 4
structure OkTabs (ts : List Tab) : Prop where
  ok : ∀ t ∈ ts, OkTab t
  pos : 0 < ts.length
  len : ts.length ≤ 8
abbrev encTs (ts : List Tab) : DL.W := .tup (ts.map Tab.enc)
def F_tables : DSpec := fun ws S Q => ∃ st, ws = [.ref 1, .ref 2] ∧ S = B st [stro []] ∧ Good st ∧ ∀ st' ts names, Good st' → OkTabs ts → Q (encTs ts) (B st' [stro names])
theorem tabs_pure (ts : List Tab) : (encTs ts).pure = true := by
  show W.pureL _ = true
  exact pureL_of fun w hw => by
    obtain ⟨t, _, rfl⟩ := List.mem_map.mp hw
    rfl
theorem vc_tables : ∀ ws S Q, Closed S → F_tables ws S Q → d_law_tables F_draw F_name (endsW S.length Q) (startW N_law_tables.length ws) S := by
  rintro ws S Q cl ⟨st, rfl, rfl, g, q⟩
  show d_law_tables F_draw F_name _ [some (.ref 1), some (.ref 2), none] _
  unfold d_law_tables
  walk_at "dl"
  refine draw_ok g (by decide) (by decide) fun st1 r g1 r0 r8 => ?_
  walk_at "dl"
  refine ⟨by omega, by omega, ?_⟩
  refine compW_inv (fun i acc S' => ∃ st names ts, S' = B st [stro names] ∧ Good st ∧ acc = ts.map Tab.enc ∧ ts.length = i ∧ names.length = i ∧ i ≤ 8 ∧ ∀ t ∈ ts, OkTab t) ⟨st1, [], [], rfl, g1, rfl, rfl, rfl, by decide, (by intro t h; cases h)⟩ ?_ ?_
  · rintro i x acc S' hx ⟨st2, names, ts, rfl, g2, rfl, ht, hn, hi, ok⟩ N hN
    obtain ⟨hi2, rfl⟩ := rng_get hx
    refine ⟨trivial, ?_⟩
    walk_at "dl"
    refine name_ok (j := 0) g2 rfl (by omega) fun st3 nm g3 hnm => ?_
    walk_at "dl"
    refine draw_ok g3 (by decide) (by decide) fun st4 v g4 v0 v4 => ?_
    walk_at "dl"
    refine ⟨by decide, small_lt (by omega), hN _ _ ⟨st4, names ++ [nm], ts ++ [(nm, 1 + v)], rfl, g4, by rw [List.map_append]; rfl, by simp [ht], by simp [hn], by omega, fun t h => ?_⟩⟩
    rcases List.mem_append.mp h with h | h
    · exact ok t h
    · rw [List.mem_singleton.mp h]
      exact ⟨hnm, by show 1 ≤ 1 + v; omega, by show 1 + v ≤ 4; omega⟩
  · rintro acc S' ⟨st2, names, ts, rfl, g2, rfl, ht, hn, hi, ok⟩
    rw [rng_len] at ht
    refine ⟨trivial, ?_⟩
    rw [e_tupleL (ws := ts.map Tab.enc) (by simp)]
    have c : Closed (B st2 [stro names]) := closed_BR fun o ho => by
      rw [List.mem_singleton.mp ho]
      exact bndL_strs _ _
    exact Ends0.drop (S0 := B st2 [stro names]) [.lst (ts.map Tab.enc)] (Nat.le_refl _) c (pure_bnd _ _ (tabs_pure ts)) (q st2 ts names g2 ⟨ok, by omega, by omega⟩)
/-! ### _law_house -/
def Door.le (a b : Door) : Bool := leW a.enc b.enc
theorem alike_ints : ∀ (a b : List Int), PySem.W.alikeAll (datWs (a.map W.int)) (datWs (b.map W.int)) = true
  | [], _ => by simp [datWs, PySem.W.alikeAll]
  | _ :: _, [] => by simp [datWs, PySem.W.alikeAll]
  | x :: a, y :: b => by
    have ih := alike_ints a b
    simp only [List.map_cons, datWs, PySem.W.alikeAll, ih]
    rfl
theorem alike_doors (ds : List Door) : PySem.W.AllAlike ((ds.map Door.enc).map datW) := by
  intro x hx y hy
  rw [List.map_map] at hx hy
  obtain ⟨a, _, rfl⟩ := List.mem_map.mp hx
  obtain ⟨b, _, rfl⟩ := List.mem_map.mp hy
  have z := alike_ints a.told b.told
  show PySem.W.alike (.tuple [.str a.name, .str a.table, .tuple (datWs (a.told.map W.int)), .str a.kind]) (.tuple [.str b.name, .str b.table, .tuple (datWs (b.told.map W.int)), .str b.kind]) = true
  simp only [PySem.W.alike, PySem.W.alikeAll, z]
  rfl
theorem sortable_doors (ds : List Door) : PySem.W.Sortable ((ds.map Door.enc).map datW) := by
  refine .inl fun x hx => ?_
  rw [List.map_map] at hx
  obtain ⟨a, _, rfl⟩ := List.mem_map.mp hx
  exact ⟨_, _, rfl⟩
theorem depth_ints : ∀ l : List Int, PyData.depthAll (datWs (l.map W.int)) = 0
  | [] => by simp [datWs, PyData.depthAll]
  | x :: l => by
    simp only [List.map_cons, datWs, PyData.depthAll, depth_ints l]
    rfl
theorem depth_doors (ds : List Door) : ∀ w ∈ ds.map Door.enc, (datW w).depth ≤ 60 := by
  intro w hw
  obtain ⟨a, _, rfl⟩ := List.mem_map.mp hw
  show (PyData.tuple [.str a.name, .str a.table, .tuple (datWs (a.told.map W.int)), .str a.kind]).depth ≤ 60
  simp only [PyData.depth, PyData.depthAll, depth_ints]
  decide
theorem pure_doors (ds : List Door) : W.pureL (ds.map Door.enc) = true := pureL_of fun w hw => by
  obtain ⟨a, _, rfl⟩ := List.mem_map.mp hw
  show (true && (true && (W.pureL (a.told.map W.int) && (true && true)))) = true
  rw [pureL_ints]
  rfl
theorem sorted_doors (ds : List Door) : (ds.map Door.enc).mergeSort leW = (ds.mergeSort Door.le).map Door.enc :=
  (List.map_mergeSort (r := Door.le) (s := leW) (f := Door.enc) (l := ds) fun _ _ _ _ => rfl).symm
abbrev encH (ts : List Tab) (ds : List Door) : DL.W := .tup [encTs ts, .tup [], .tup (ds.map Door.enc), .tup [], .tup [], .tup []]
structure OkHouse (ds : List Door) : Prop where
  ok : ∀ d ∈ ds, d.ok
  len : ds.length ≤ 8
def F_house : DSpec := fun ws S Q => ∃ st R ts, ws = [.ref 1, encTs ts] ∧ S = B st R ∧ Good st ∧ OkTabs ts ∧ ∀ st' ds, Good st' → OkHouse ds → Q (encH ts ds) (B st' R)
theorem house_pure (ts : List Tab) (ds : List Door) : (encH ts ds).pure = true := by
  show (W.pure (encTs ts) && (true && (W.pureL (ds.map Door.enc) && (true && (true && (true && true)))))) = true
  rw [tabs_pure, pure_doors]
  rfl
theorem one_len : (Str.ofString "one").length ≤ 8 := by decide +kernel
theorem all_len : (Str.ofString "all").length ≤ 8 := by decide +kernel
theorem vc_house : ∀ ws S Q, Closed S → F_house ws S Q → d_law_house F_draw F_name (endsW S.length Q) (startW N_law_house.length ws) S := by
  rintro ws S Q cl ⟨st, R, ts, rfl, rfl, g, okt, q⟩
  show d_law_house F_draw F_name _ [some (.ref 1), some (encTs ts), none, none, none, none, none, none, none, none, none] _
  unfold d_law_house
  have tpos := okt.pos
  have tlen := okt.len
  walk_at "dl"
  refine ⟨by decide, by decide, by decide, ?_⟩
  refine draw_ok g (by decide) (by decide) fun st1 r g1 r0 r8 => ?_
  walk_at "dl"
  refine ⟨by omega, by omega, ?_⟩
  refine forW_inv (fun i env S' => ∃ st callers peeped ds G x5 x6 x7 x8 x9 x10, S' = B st (R ++ (stro callers :: stro peeped :: .lst (ds.map Door.enc) :: G)) ∧ Good st ∧ callers.length = i ∧ peeped.length ≤ i ∧ ds.length = i ∧ i ≤ 8 ∧ (∀ d ∈ ds, d.ok) ∧
      env = [some (.ref 1), some (encTs ts), some (.ref (R.length + 1 + 1)), some (.ref (R.length + 1 + 1 + 1)), some (.ref (R.length + 1 + 1 + 1 + 1)), x5, x6, x7, x8, x9, x10]) ⟨st1, [], [], [], [], _, _, _, _, _, _, rfl, g1, rfl, by decide, rfl, by decide, (by intro t h; cases h), rfl⟩ ?_ ?_
  · rintro i x env S' hx ⟨st2, callers, peeped, ds, G, x5, x6, x7, x8, x9, x10, rfl, g2, hc, hp, hd, hi, ok, rfl⟩ N hN
    obtain ⟨hi2, rfl⟩ := rng_get hx
    refine ⟨trivial, ?_⟩
    walk_at "dl"
    refine draw_ok (many := (ts.length : Int)) g2 (by omega) (by omega) fun st3 v g3 v0 v1 => ?_
    obtain ⟨t, ht, hat⟩ := at_map (f := Tab.enc) (xs := ts) v0 v1
    rw [e_ixT hat]
    have okT := okt.ok t ht
    have w0 := okT.w0
    have w1 := okT.w1
    have wn := okT.n
    obtain ⟨tn, tw⟩ := t
    unfold Tab.enc
    walk_at "dl"
    refine ⟨by show _ ≤ tw; omega, by show tw < _; omega, ?_⟩
    refine compW_inv (fun i acc S' => ∃ st told, S' = B st (R ++ (stro callers :: stro peeped :: .lst (ds.map Door.enc) :: G)) ∧ Good st ∧ acc = told.map W.int ∧ told.length ≤ i ∧ ∀ c ∈ told, 0 ≤ c ∧ c ≤ 4) ⟨st3, [], rfl, g3, rfl, by decide, (by intro t h; cases h)⟩ ?_ ?_
    · rintro k y acc S' hy ⟨st4, told, rfl, g4, rfl, hl, hto⟩ N2 hN2
      obtain ⟨hk, rfl⟩ := rng_get hy
      have hk4 : k < 4 := by have : tw ≤ 4 := w1; omega
      refine ⟨trivial, ?_⟩
      walk_at "dl"
      refine draw_ok g4 (by decide) (by decide) fun st5 b g5 b0 b2 => ?_
      walk_at "dl"
      split
      · refine ⟨small_lt (by omega), hN2 _ _ ⟨st5, told ++ [(k : Int)], rfl, g5, by rw [List.map_append]; rfl, by simp; omega, fun c h => ?_⟩⟩
        rcases List.mem_append.mp h with h | h
        · exact hto c h
        · rw [List.mem_singleton.mp h]
          omega
      · exact hN2 _ _ ⟨st5, told, rfl, g5, rfl, by omega, hto⟩
    · rintro acc S' ⟨st4, told, rfl, g4, rfl, hl, hto⟩
      rw [rng_len] at hl
      have hl4 : told.length ≤ 4 := by have : tw ≤ 4 := w1; omega
      refine ⟨trivial, ?_⟩
      walk_at "dl"
      refine ⟨rfl, flW_strs _, ?_⟩
      have fin : ∀ (st : Dr) (peeped' : List Str) (kind : Str), Good st → peeped'.length ≤ i + 1 → kind.length ≤ 8 →
          F_name [.ref 1, .ref (R.length + 1 + 1)] (B st (R ++ (stro callers :: stro peeped' :: .lst (ds.map Door.enc) :: (G ++ [.lst (told.map W.int)])))) fun w S1 => 4 ≤ sizeLine ∧ vAppend (.ref (R.length + 1 + 1 + 1 + 1)) [.tup [w, .str tn, .tup (told.map W.int), .str kind]] S1 fun _ S1 =>
            N [some (.ref 1), some (encTs ts), some (.ref (R.length + 1 + 1)), some (.ref (R.length + 1 + 1 + 1)), some (.ref (R.length + 1 + 1 + 1 + 1)), some (.int (i : Int)), some (.str tn), some (.int tw), some (.tup (told.map W.int)), some (.str kind), x10] S1 := by
        intro st peeped' kind gs hp' hk
        refine name_ok gs get_app0 (by omega) fun st6 nm g6 hnm => ?_
        walk_at "dl"
        refine ⟨by decide, small_lt (by omega), hN _ _ ⟨st6, callers ++ [nm], peeped', ds ++ [⟨nm, tn, told, kind⟩], G ++ [.lst (told.map W.int)], _, _, _, _, _, _, ?_, g6, by simp [hc], hp', by simp [hd], by omega, fun d h => ?_, rfl⟩⟩
        · simp only [List.map_append]
          rfl
        · rcases List.mem_append.mp h with h | h
          · exact ok d h
          · rw [List.mem_singleton.mp h]
            exact ⟨hnm, wn, hk, hl4, fun c hc => by have := hto c hc; omega⟩
      split
      · refine draw_ok g4 (by decide) (by decide) fun st5 c g5 c0 c3 => ?_
        walk_at "dl"
        split
        · walk_at "dl"
          refine ⟨small_lt (by omega), ?_⟩
          have z := fin st5 (peeped ++ [tn]) (Str.ofString "one") g5 (by simp; omega) one_len
          simp only [stro, List.map_append, List.map_cons, List.map_nil] at z
          exact z
        · walk_at "dl"
          exact fin st5 peeped (Str.ofString "all") g5 (by omega) all_len
      · exact fin st4 peeped (Str.ofString "all") g4 (by omega) all_len
  · rintro env S' ⟨st2, callers, peeped, ds, G, x5, x6, x7, x8, x9, x10, rfl, g2, hc, hp, hd, hi, ok, rfl⟩
    rw [rng_len] at hd
    refine ⟨trivial, ?_⟩
    walk_at "dl"
    refine ⟨by decide, _, (by simp), pure_doors ds, alike_doors ds, sortable_doors ds, depth_doors ds, ?_⟩
    rw [sorted_doors]
    walk_at "dl"
    refine ⟨by decide, by decide, by decide, by decide, ?_⟩
    refine endBT (st' := st2) _ cl (house_pure _ _) (q st2 _ g2 ⟨fun d h => ok d (List.mem_mergeSort.mp h), by rw [List.length_mergeSort]; omega⟩)
end K92

namespace K92
open PySem PySem.Spec PyProof.Rows L2 TL DL
local macro_rules | `(tactic| walk_at "dl") => `(tactic| try simp (config := { decide := false }) only [e_seq, e_asg, e_nm, e_op, e_un, e_cb, e_c, e_var, e_ifs, e_tru, e_B, e_drop, e_bm, e_bm0, e_ret, e_retN, e_next, e_break, e_cont, e_nil, e_cons, e_tup, e_lst, e_sl, e_onone, e_osome, e_gsub, e_call, e_callk, e_and, e_or, e_not, e_andv, e_orv, e_notv, e_if, e_par, e_for, e_comp, e_iseq, e_rng1, e_yes, e_gtp, e_gc, e_gn0,
  e_addI, e_addS, e_addT, e_addL, e_i20, e_i2, e_neg, e_cmpI, e_cmpS, e_eqI, e_eqS, e_eqB, e_ixT, e_ixLit, e_ixL, e_ixS, e_set, e_slT, e_slLit, e_slS, e_slL, e_lenS, e_lenT, e_lenLit, e_lenL, e_i1, e_intI, e_intB, e_strI, e_strS, e_listT, e_listLit, e_listL, e_tupleT, e_tupleL, e_append, e_pop0, e_tyL, e_tyS, e_truL, e_truT, e_truB, e_truI, e_truS, e_truN, e_seqT, e_seqLit, e_seqL, e_in, e_inT, e_isi, kit_ll, kit_ss, tyW_L, tyW_S, tyW_T, tyW_I, tyW_B, cut_to1, cut_to2, cut_from1, wipeW_nil, wipeW_cons, Nat.reduceAdd, eq_self, List.map_cons, List.map_nil,
  atI_0, atI_1, atI_2, atI_3, atI_end, ixN_0, ixN_1, ixN_11, ixN_last, List.map_append, List.map_cons, List.map_nil, get_app, get_app0, set_app, set_app0, List.cons_append, List.nil_append, List.append_assoc, List.length_append, List.length_cons, List.length_nil, Nat.zero_add, List.length_map, List.length_set,
  List.getElem?_cons_zero, List.getElem?_cons_succ, List.set_cons_zero, List.set_cons_succ, Option.some.injEq, exists_eq_left', exists_eq_left, exists_and_left, W.int.injEq, W.bl.injEq, W.str.injEq, W.tup.injEq, W.ref.injEq, O.lst.injEq, List.cons.injEq, reduceCtorEq, false_and, exists_false, or_false, false_or, true_and, and_true, decide_eq_true_eq, Bool.false_xor, Bool.true_xor, Bool.not_eq_true', decide_eq_false_iff_not, List.isEmpty_cons, List.isEmpty_nil, Bool.not_true, Bool.not_false, if_true, if_false, not_true_eq_false, not_false_eq_true, ne_eq, Bool.false_eq_true, reduceIte])

/-! ### _law_question -/
abbrev Case := List Tm × List DL.W
def Case.enc (c : Case) : DL.W := .tup [encT c.1, .tup c.2]
def Case.ok (c : Case) : Prop := OkTs c.1 ∧ c.1.length ≤ 4 ∧ W.pureL c.2 = true
abbrev encQ (given : List Str) (cs : List Case) : DL.W := .tup [.tup (given.map W.str), .tup (cs.map Case.enc)]
theorem pure_tms (ts : List Tm) : W.pureL (ts.map Tm.enc) = true := pureL_of fun w hw => by
  obtain ⟨t, _, rfl⟩ := List.mem_map.mp hw
  cases t <;> rfl
theorem pure_cases {cs : List Case} (h : ∀ c ∈ cs, c.ok) : W.pureL (cs.map Case.enc) = true := pureL_of fun w hw => by
  obtain ⟨c, hc, rfl⟩ := List.mem_map.mp hw
  show (W.pureL (c.1.map Tm.enc) && (W.pureL c.2 && true)) = true
  rw [pure_tms, (h c hc).2.2]
  rfl
theorem pureQ {g : List Str} {cs : List Case} (h : ∀ c ∈ cs, c.ok) : (encQ g cs).pure = true := by
  show (W.pureL (g.map W.str) && (W.pureL (cs.map Case.enc) && true)) = true
  rw [pureL_strs, pure_cases h]
  rfl
def F_question : DSpec := fun ws S Q => ∃ st R ts, ws = [.ref 1, encTs ts] ∧ S = B st R ∧ Good st ∧ OkTabs ts ∧ ∀ st' given c cs, Good st' → (∀ x ∈ c :: cs, Case.ok x) → Q (encQ given (c :: cs)) (B st' R)
theorem at_strs {xs : List Str} {r : Int} (h0 : 0 ≤ r) (h1 : r < xs.length) : ∃ x, x ∈ xs ∧ atI (xs.map W.str) r = some (.str x) := at_map h0 h1
theorem vc_question : ∀ ws S Q, Closed S → F_question ws S Q → d_law_question F_draw F_name F_value (endsW S.length Q) (startW N_law_question.length ws) S := by
  rintro ws S Q cl ⟨st, R, ts, rfl, rfl, g, okt, q⟩
  show d_law_question F_draw F_name F_value _ [some (.ref 1), some (encTs ts), none, none, none, none, none, none, none, none, none, none, none, none, none] _
  unfold d_law_question
  have tpos := okt.pos
  have tlen := okt.len
  walk_at "dl"
  refine ⟨by decide, ?_⟩
  refine draw_ok g (by decide) (by decide) fun st1 r g1 r0 r3 => ?_
  walk_at "dl"
  refine ⟨by omega, by omega, ?_⟩
  refine compW_inv (fun i acc S' => ∃ st given marks, S' = B st (R ++ [stro marks]) ∧ Good st ∧ acc = given.map W.str ∧ given.length = i ∧ marks.length = i ∧ i ≤ 2 ∧ ∀ s ∈ given, s.length ≤ 8) ⟨st1, [], [], rfl, g1, rfl, rfl, rfl, by decide, (by intro t h; cases h)⟩ ?_ ?_
  · rintro i x acc S' hx ⟨st2, given, marks, rfl, g2, rfl, hl, hm, hi, ok⟩ N hN
    obtain ⟨hi2, rfl⟩ := rng_get hx
    refine ⟨trivial, ?_⟩
    walk_at "dl"
    refine name_ok g2 get_app0 (by omega) fun st3 nm g3 hnm => ?_
    walk_at "dl"
    refine ⟨small_lt (by omega), hN _ _ ⟨st3, given ++ [nm], marks ++ [nm], rfl, g3, by rw [List.map_append]; rfl, by simp [hl], by simp [hm], by omega, fun t h => ?_⟩⟩
    rcases List.mem_append.mp h with h | h
    · exact ok t h
    · rw [List.mem_singleton.mp h]
      exact hnm
  · rintro acc S' ⟨st2, given, marks, rfl, g2, rfl, hl, hm, hi, gok⟩
    rw [rng_len] at hl hm
    refine ⟨trivial, ?_⟩
    walk_at "dl"
    refine draw_ok g2 (by decide) (by decide) fun st3 long g3 l0 l5 => ?_
    walk_at "dl"
    refine ⟨by decide, ?_⟩
    refine draw_ok g3 (by decide) (by decide) fun st4 many g4 m0 m4 => ?_
    walk_at "dl"
    refine ⟨by omega, by omega, ?_⟩
    refine forW_inv (fun i env S' => ∃ st marks X cases G x6 x7 x8 x9 x10 x11 x12 x13 x14, S' = B st (R ++ (stro marks :: X :: .lst (cases.map Case.enc) :: G)) ∧ Good st ∧ marks.length ≤ 2 + 8 * i ∧ cases.length = i ∧ i ≤ 4 ∧ (∀ d ∈ cases, Case.ok d) ∧
      env = [some (.ref 1), some (encTs ts), some (.ref (R.length + 1 + 1)), some (.tup (given.map W.str)), some (.int long), some (.ref (R.length + 1 + 1 + 1 + 1)), x6, x7, x8, x9, x10, x11, x12, x13, x14]) ⟨st4, marks, _, [], _, _, _, _, _, _, _, _, _, _, rfl, g4, by omega, rfl, by decide, (by intro t h; cases h), rfl⟩ ?_ ?_
    · rintro i x env S' hx ⟨st5, marks2, X, cases, G, x6, x7, x8, x9, x10, x11, x12, x13, x14, rfl, g5, hm2, hc, hi4, ok, rfl⟩ N hN
      obtain ⟨hi5, rfl⟩ := rng_get hx
      refine ⟨trivial, ?_⟩
      walk_at "dl"
      refine ⟨by decide, ?_⟩
      refine draw_ok g5 (by decide) (by decide) fun st6 laps g6 p0 p2 => ?_
      walk_at "dl"
      refine ⟨by omega, by omega, ?_⟩
      refine forW_inv (fun j env S' => ∃ st marks own rows G2 x9 x10 x11 x12 x13, S' = B st (R ++ (stro marks :: X :: .lst (cases.map Case.enc) :: (G ++ (stro own :: .lst rows :: G2)))) ∧ Good st ∧ marks.length ≤ 2 + 8 * i + 4 * j ∧ own.length ≤ 2 + 4 * j ∧ rows.length = j ∧ j ≤ 2 ∧ W.pureL rows = true ∧ (∀ d ∈ own, d.length ≤ 8) ∧
        env = [some (.ref 1), some (encTs ts), some (.ref (R.length + 1 + 1)), some (.tup (given.map W.str)), some (.int long), some (.ref (R.length + 1 + 1 + 1 + 1)), some (.int (i : Int)), some (.ref (R.length + (G.length + 1 + 1 + 1) + 1 + 1)), some (.ref (R.length + (G.length + 1 + 1 + 1 + 1) + 1 + 1)), x9, x10, x11, x12, x13, x14]) ⟨st6, marks2, given, [], [], _, _, _, _, _, rfl, g6, by omega, by omega, rfl, by decide, rfl, gok, rfl⟩ ?_ ?_
      · rintro j x env S' hx ⟨st7, marks3, own, rows, G2, x9, x10, x11, x12, x13, rfl, g7, hm3, ho, hr, hj, pr, oko, rfl⟩ N2 hN2
        obtain ⟨hj2, rfl⟩ := rng_get hx
        refine ⟨trivial, ?_⟩
        walk_at "dl"
        refine draw_ok (many := (ts.length : Int)) g7 (by omega) (by omega) fun st8 v g8 v0 v1 => ?_
        obtain ⟨t, ht, hat⟩ := at_map (f := Tab.enc) (xs := ts) v0 v1
        rw [e_ixT hat]
        have okT := okt.ok t ht
        have w0 := okT.w0
        have w1 := okT.w1
        obtain ⟨tn, tw⟩ := t
        unfold Tab.enc
        walk_at "dl"
        refine ⟨by decide, by show _ ≤ tw; omega, by show tw < _; omega, ?_⟩
        refine forW_inv (fun k env S' => ∃ st marks own terms x13, S' = B st (R ++ (stro marks :: X :: .lst (cases.map Case.enc) :: (G ++ (stro own :: .lst rows :: (G2 ++ [.lst (terms.map Tm.enc)]))))) ∧ Good st ∧ marks.length ≤ 2 + 8 * i + 4 * j + k ∧ own.length ≤ 2 + 4 * j + k ∧ terms.length = k ∧ k ≤ 4 ∧ (∀ t ∈ terms, Tm.ok t) ∧ (∀ d ∈ own, d.length ≤ 8) ∧
          env = [some (.ref 1), some (encTs ts), some (.ref (R.length + 1 + 1)), some (.tup (given.map W.str)), some (.int long), some (.ref (R.length + 1 + 1 + 1 + 1)), some (.int (i : Int)), some (.ref (R.length + (G.length + 1 + 1 + 1) + 1 + 1)), some (.ref (R.length + (G.length + 1 + 1 + 1 + 1) + 1 + 1)), some (.int (j : Int)), some (.str tn), some (.int tw), some (.ref (R.length + (G.length + (G2.length + 1 + 1) + 1 + 1 + 1) + 1 + 1)), x13, x14]) ⟨st8, marks3, own, [], _, rfl, g8, by omega, by omega, rfl, by decide, (by intro t h; cases h), oko, rfl⟩ ?_ ?_
        · rintro k x env S' hx ⟨st9, marks4, own4, terms, x13, rfl, g9, hm4, ho4, htl, hk, okt4, oko4, rfl⟩ N3 hN3
          obtain ⟨hk2, rfl⟩ := rng_get hx
          have hk4 : k < 4 := by have : tw ≤ 4 := w1; omega
          refine ⟨trivial, ?_⟩
          walk_at "dl"
          refine draw_ok g9 (by decide) (by decide) fun st10 c g10 c0 c4 => ?_
          walk_at "dl"
          split
          · walk_at "dl"
            refine value_ok g10 fun st11 r g11 q0 q1 => ?_
            walk_at "dl"
            refine ⟨small_lt (by omega), hN3 _ _ ⟨st11, marks4, own4, terms ++ [.val r], _, ?_, g11, by omega, by omega, by simp; omega, by omega, fun d h => ?_, oko4, rfl⟩⟩
            · simp only [stro, List.map_append]
              rfl
            · rcases List.mem_append.mp h with h | h
              · exact okt4 d h
              · rw [List.mem_singleton.mp h]
                exact ⟨q0, q1⟩
          · walk_at "dl"
            split
            · rename_i hne
              have hpos : 0 < own4.length := by
                cases own4 with
                | nil => simp at hne
                | cons _ _ => simp
              refine draw_ok g10 (by decide) (by decide) fun st11 e g11 e0 e3 => ?_
              walk_at "dl"
              split
              · walk_at "dl"
                refine draw_ok (many := (own4.length : Int)) g11 (by omega) (by omega) fun st12 v2 g12 u0 u1 => ?_
                obtain ⟨x, hx2, hat2⟩ := at_strs (xs := own4) u0 u1
                rw [e_ixL (ws := own4.map W.str) (by simp [stro]) hat2]
                walk_at "dl"
                refine ⟨small_lt (by omega), hN3 _ _ ⟨st12, marks4, own4, terms ++ [.mark x], _, ?_, g12, by omega, by omega, by simp; omega, by omega, fun d h => ?_, oko4, rfl⟩⟩
                · simp only [stro, List.map_append]
                  rfl
                · rcases List.mem_append.mp h with h | h
                  · exact okt4 d h
                  · rw [List.mem_singleton.mp h]
                    exact oko4 x hx2
              · walk_at "dl"
                refine name_ok (R := R ++ (stro marks4 :: X :: .lst (cases.map Case.enc) :: (G ++ (stro own4 :: .lst rows :: (G2 ++ [.lst (terms.map Tm.enc)]))))) (j := R.length) g11 get_app0 (by omega) fun st12 nm g12 hnm => ?_
                walk_at "dl"
                refine ⟨small_lt (by omega), small_lt (by omega), hN3 _ _ ⟨st12, marks4 ++ [nm], own4 ++ [nm], terms ++ [.mark nm], _, ?_, g12, by simp; omega, by simp; omega, by simp; omega, by omega, fun d h => ?_, fun d h => ?_, rfl⟩⟩
                · simp only [stro, List.map_append]
                  rfl
                · rcases List.mem_append.mp h with h | h
                  · exact okt4 d h
                  · rw [List.mem_singleton.mp h]
                    exact hnm
                · rcases List.mem_append.mp h with h | h
                  · exact oko4 d h
                  · rw [List.mem_singleton.mp h]
                    exact hnm
            · refine name_ok (R := R ++ (stro marks4 :: X :: .lst (cases.map Case.enc) :: (G ++ (stro own4 :: .lst rows :: (G2 ++ [.lst (terms.map Tm.enc)]))))) (j := R.length) g10 get_app0 (by omega) fun st12 nm g12 hnm => ?_
              walk_at "dl"
              refine ⟨small_lt (by omega), small_lt (by omega), hN3 _ _ ⟨st12, marks4 ++ [nm], own4 ++ [nm], terms ++ [.mark nm], _, ?_, g12, by simp; omega, by simp; omega, by simp; omega, by omega, fun d h => ?_, fun d h => ?_, rfl⟩⟩
              · simp only [stro, List.map_append]
                rfl
              · rcases List.mem_append.mp h with h | h
                · exact okt4 d h
                · rw [List.mem_singleton.mp h]
                  exact hnm
              · rcases List.mem_append.mp h with h | h
                · exact oko4 d h
                · rw [List.mem_singleton.mp h]
                  exact hnm
        · rintro env S' ⟨st9, marks4, own4, terms, x13, rfl, g9, hm4, ho4, htl, hk, okt4, oko4, rfl⟩
          rw [rng_len] at hm4 ho4 htl
          refine ⟨trivial, ?_⟩
          walk_at "dl"
          have hkw : tw.toNat ≤ 4 := by have : tw ≤ 4 := w1; omega
          refine ⟨by decide, small_lt (by omega), hN2 _ _ ⟨st9, marks4, own4, rows ++ [.tup [.str tn, .tup (terms.map Tm.enc)]], _, _, _, _, _, _, rfl, g9, by omega, by omega, by simp; omega, by omega, ?_, oko4, rfl⟩⟩
          rw [pureL_all, List.all_append, ← pureL_all, pr]
          show (true && ((W.pureL (terms.map Tm.enc) && true) && true)) = true
          rw [pure_tms]
          rfl
      · rintro env S' ⟨st7, marks3, own, rows, G2, x9, x10, x11, x12, x13, rfl, g7, hm3, ho, hr, hj, pr, oko, rfl⟩
        rw [rng_len] at hm3 ho hr
        refine ⟨trivial, ?_⟩
        walk_at "dl"
        refine ⟨by decide, by omega, by omega, ?_⟩
        refine forW_inv (fun k env S' => ∃ st terms x9 x13, S' = B st (R ++ (stro marks3 :: X :: .lst (cases.map Case.enc) :: (G ++ (stro own :: .lst rows :: (G2 ++ [.lst (terms.map Tm.enc)]))))) ∧ Good st ∧ terms.length = k ∧ k ≤ 4 ∧ (∀ t ∈ terms, Tm.ok t) ∧
          env = [some (.ref 1), some (encTs ts), some (.ref (R.length + 1 + 1)), some (.tup (given.map W.str)), some (.int long), some (.ref (R.length + 1 + 1 + 1 + 1)), some (.int (i : Int)), some (.ref (R.length + (G.length + 1 + 1 + 1) + 1 + 1)), some (.ref (R.length + (G.length + 1 + 1 + 1 + 1) + 1 + 1)), x9, x10, x11, x12, x13, some (.ref (R.length + (G.length + (G2.length + 1 + 1) + 1 + 1 + 1) + 1 + 1))]) ⟨st7, [], _, _, rfl, g7, rfl, by decide, (by intro t h; cases h), rfl⟩ ?_ ?_
        · rintro k x env S' hx ⟨st9, terms, x9, x13, rfl, g9, htl, hk, okt4, rfl⟩ N3 hN3
          obtain ⟨hk2, rfl⟩ := rng_get hx
          refine ⟨trivial, ?_⟩
          walk_at "dl"
          have fin : ∀ (st : Dr) (t : Tm), Good st → t.ok → N3 [some (.ref 1), some (encTs ts), some (.ref (R.length + 1 + 1)), some (.tup (given.map W.str)), some (.int long), some (.ref (R.length + 1 + 1 + 1 + 1)), some (.int (i : Int)), some (.ref (R.length + (G.length + 1 + 1 + 1) + 1 + 1)), some (.ref (R.length + (G.length + 1 + 1 + 1 + 1) + 1 + 1)), some (.int (k : Int)), x10, x11, x12, x13, some (.ref (R.length + (G.length + (G2.length + 1 + 1) + 1 + 1 + 1) + 1 + 1))] (B st (R ++ (stro marks3 :: X :: .lst (cases.map Case.enc) :: (G ++ (stro own :: .lst rows :: (G2 ++ [.lst (terms.map Tm.enc ++ [t.enc])])))))) := by
            intro st t gs ht
            refine hN3 _ _ ⟨st, terms ++ [t], _, _, ?_, gs, by simp; omega, by omega, fun d h => ?_, rfl⟩
            · simp only [stro, List.map_append]
              rfl
            · rcases List.mem_append.mp h with h | h
              · exact okt4 d h
              · rw [List.mem_singleton.mp h]
                exact ht
          split
          · rename_i hne
            have hpos : 0 < own.length := by
              cases own with
              | nil => simp at hne
              | cons _ _ => simp
            refine draw_ok g9 (by decide) (by decide) fun st11 e g11 e0 e3 => ?_
            walk_at "dl"
            split
            · walk_at "dl"
              refine draw_ok (many := (own.length : Int)) g11 (by omega) (by omega) fun st12 v2 g12 u0 u1 => ?_
              obtain ⟨x, hx2, hat2⟩ := at_strs (xs := own) u0 u1
              rw [e_ixL (ws := own.map W.str) (by simp [stro]) hat2]
              walk_at "dl"
              exact ⟨small_lt (by omega), fin st12 (.mark x) g12 (oko x hx2)⟩
            · walk_at "dl"
              refine value_ok g11 fun st12 r g12 q0 q1 => ?_
              walk_at "dl"
              exact ⟨small_lt (by omega), fin st12 (.val r) g12 ⟨q0, q1⟩⟩
          · refine value_ok g9 fun st12 r g12 q0 q1 => ?_
            walk_at "dl"
            exact ⟨small_lt (by omega), fin st12 (.val r) g12 ⟨q0, q1⟩⟩
        · rintro env S' ⟨st9, terms, x9, x13, rfl, g9, htl, hk, okt4, rfl⟩
          rw [rng_len] at htl
          refine ⟨trivial, ?_⟩
          walk_at "dl"
          refine ⟨by decide, small_lt (by omega), hN _ _ ⟨st9, marks3, X, cases ++ [(terms, rows)], G ++ (stro own :: .lst rows :: (G2 ++ [.lst (terms.map Tm.enc)])), _, _, _, _, _, _, _, _, _, ?_, g9, by omega, by simp; omega, by omega, fun d h => ?_, rfl⟩⟩
          · simp only [stro, List.map_append]
            rfl
          · rcases List.mem_append.mp h with h | h
            · exact ok d h
            · rw [List.mem_singleton.mp h]
              exact ⟨⟨okt4, by show terms.length ≤ 400; omega⟩, by show terms.length ≤ 4; omega, pr⟩
    · rintro env S' ⟨st5, marks2, X, cases, G, x6, x7, x8, x9, x10, x11, x12, x13, x14, rfl, g5, hm2, hc, hi4, ok, rfl⟩
      rw [rng_len] at hc
      refine ⟨trivial, ?_⟩
      walk_at "dl"
      refine ⟨by decide, ?_⟩
      cases cases with
      | nil => simp at hc; omega
      | cons c cs => exact endBT (st' := st5) _ cl (pureQ ok) (q st5 given c cs g5 ok)
end K92

namespace K92
open PySem PySem.Spec PyProof.Rows L2 TL DL
local macro_rules | `(tactic| walk_at "dl") => `(tactic| try simp (config := { decide := false }) only [e_seq, e_asg, e_nm, e_op, e_un, e_cb, e_c, e_var, e_ifs, e_tru, e_B, e_drop, e_bm, e_bm0, e_ret, e_retN, e_next, e_break, e_cont, e_nil, e_cons, e_tup, e_lst, e_sl, e_onone, e_osome, e_gsub, e_call, e_callk, e_and, e_or, e_not, e_andv, e_orv, e_notv, e_if, e_par, e_for, e_comp, e_iseq, e_rng1, e_yes, e_gtp, e_gc, e_gn0,
  e_addI, e_addS, e_addT, e_addL, e_i20, e_i2, e_neg, e_cmpI, e_cmpS, e_eqI, e_eqS, e_eqB, e_ixT, e_ixLit, e_ixL, e_ixS, e_set, e_slT, e_slLit, e_slS, e_slL, e_lenS, e_lenT, e_lenLit, e_lenL, e_i1, e_intI, e_intB, e_strI, e_strS, e_listT, e_listLit, e_listL, e_tupleT, e_tupleL, e_append, e_pop0, e_tyL, e_tyS, e_truL, e_truT, e_truB, e_truI, e_truS, e_truN, e_seqT, e_seqLit, e_seqL, e_in, e_inT, e_isi, kit_ll, kit_ss, tyW_L, tyW_S, tyW_T, tyW_I, tyW_B, cut_to1, cut_to2, cut_from1, wipeW_nil, wipeW_cons, Nat.reduceAdd, eq_self, List.map_cons, List.map_nil,
  atI_0, atI_1, atI_2, atI_3, atI_end, ixN_0, ixN_1, ixN_11, ixN_last, List.map_append, List.map_cons, List.map_nil, get_app, get_app0, set_app, set_app0, List.cons_append, List.nil_append, List.append_assoc, List.length_append, List.length_cons, List.length_nil, Nat.zero_add, List.length_map, List.length_set,
  List.getElem?_cons_zero, List.getElem?_cons_succ, List.set_cons_zero, List.set_cons_succ, Option.some.injEq, exists_eq_left', exists_eq_left, exists_and_left, W.int.injEq, W.bl.injEq, W.str.injEq, W.tup.injEq, W.ref.injEq, O.lst.injEq, List.cons.injEq, reduceCtorEq, false_and, exists_false, or_false, false_or, true_and, and_true, decide_eq_true_eq, Bool.false_xor, Bool.true_xor, Bool.not_eq_true', decide_eq_false_iff_not, List.isEmpty_cons, List.isEmpty_nil, Bool.not_true, Bool.not_false, if_true, if_false, not_true_eq_false, not_false_eq_true, ne_eq, Bool.false_eq_true, reduceIte])

/-! ### _law_rows -/
def F_rows : DSpec := fun ws S Q => ∃ st R long, ws = [.ref 1, .int long] ∧ S = B st R ∧ Good st ∧ 0 ≤ long ∧ long ≤ 4 ∧ ∀ st' rs, Good st' → OkRs rs → Q (encR rs) (B st' R)
theorem pure_rows (rs : List (List Tm)) : (encR rs).pure = true := by
  show W.pureL (rs.map encT) = true
  refine pureL_of fun w hw => ?_
  obtain ⟨t, _, rfl⟩ := List.mem_map.mp hw
  exact pure_tms t
theorem mod_ok {x : Int} : Tm.ok (.val (x % 1000000000001)) := by
  have h0 := Int.emod_nonneg x (b := 1000000000001) (by decide)
  have h1 := Int.emod_lt_of_pos x (b := 1000000000001) (by decide)
  exact ⟨h0, by omega⟩
def restRows (F_law_draw : DSpec) (F_law_value : DSpec) : DS :=
(dSeq (dAsg (dCall F_law_value (aCons (dVar 0) aNil)) (gNm 3))
(dSeq (dAsg (dLst aNil) (gNm 4))
(dSeq (dFor (iRng1 (aCons (dVar 2) aNil)) (gNm 5)
(dIfS (dB (dOp vLt (dVar 5) (dC (.int 6))))
(dDrop (dBM "list" vAppend (dVar 4) (aCons (dCB vTuple (aCons (dComp (iRng1 (aCons (dVar 1) aNil)) (gNm 6) dYes (dCall F_law_value (aCons (dVar 0) aNil)) [6]) aNil)) aNil)))
(dDrop (dBM "list" vAppend (dVar 4) (aCons (dCB vTuple (aCons (dComp (iRng1 (aCons (dVar 1) aNil)) (gNm 6) dYes (dOp vMod (dCB vIntOf (aCons (dOp vAdd (dOp vMul (dVar 3) (dOp vAdd (dVar 6) (dC (.int 3)))) (dOp vMul (dVar 5) (dC (.int 7919)))) aNil)) (dC (.int 1000000000001))) [6]) aNil)) aNil)))))
(dRet (dCB vTuple (aCons (dVar 4) aNil))))))
theorem vc_rest {st st0 : Dr} {R : Sto} {Q : WK} {many long : Int} (cl : Closed (B st0 R)) (g : Good st) (l0 : 0 ≤ long) (l4 : long ≤ 4) (m0 : 0 ≤ many) (m3 : many ≤ 300) (q : ∀ st' rs, Good st' → OkRs rs → Q (encR rs) (B st' R)) :
    restRows F_draw F_value (endsW (R.length + 1 + 1) Q) [some (.ref 1), some (.int long), some (.int many), none, none, none, none] (B st R) := by
  unfold restRows
  walk_at "dl"
  refine value_ok g fun st1 step g1 s0 s1 => ?_
  walk_at "dl"
  refine ⟨by decide, by omega, by omega, ?_⟩
  refine forW_inv (fun i env S' => ∃ st rs G x5 x6, S' = B st (R ++ (.lst (rs.map encT) :: G)) ∧ Good st ∧ rs.length = i ∧ i ≤ 300 ∧ (∀ d ∈ rs, OkTs d) ∧
      env = [some (.ref 1), some (.int long), some (.int many), some (.int step), some (.ref (R.length + 1 + 1)), x5, x6]) ⟨st1, [], [], _, _, rfl, g1, rfl, by decide, (by intro t h; cases h), rfl⟩ ?_ ?_
  · rintro i x env S' hx ⟨st2, rs, G, x5, x6, rfl, g2, hr, hi, ok, rfl⟩ N hN
    obtain ⟨hi2, rfl⟩ := rng_get hx
    refine ⟨trivial, ?_⟩
    have fin : ∀ (st : Dr) (ts : List Tm), Good st → ts.length ≤ long.toNat → (∀ t ∈ ts, Tm.ok t) → N [some (.ref 1), some (.int long), some (.int many), some (.int step), some (.ref (R.length + 1 + 1)), some (.int (i : Int)), x6] (B st (R ++ (.lst (rs.map encT ++ [.tup (ts.map Tm.enc)]) :: (G ++ [.lst (ts.map Tm.enc)])))) := by
      intro st ts gs hl ht
      refine hN _ _ ⟨st, rs ++ [ts], G ++ [.lst (ts.map Tm.enc)], _, _, ?_, gs, by simp; omega, by omega, fun d h => ?_, rfl⟩
      · simp only [List.map_append]
        rfl
      · rcases List.mem_append.mp h with h | h
        · exact ok d h
        · rw [List.mem_singleton.mp h]
          exact ⟨ht, by omega⟩
    walk_at "dl"
    split
    · walk_at "dl"
      refine ⟨by omega, by omega, ?_⟩
      refine compW_inv (fun k acc S' => ∃ st ts, S' = B st (R ++ (.lst (rs.map encT) :: G)) ∧ Good st ∧ acc = ts.map Tm.enc ∧ ts.length = k ∧ k ≤ 4 ∧ ∀ t ∈ ts, Tm.ok t) ⟨st2, [], rfl, g2, rfl, rfl, by decide, (by intro t h; cases h)⟩ ?_ ?_
      · rintro k y acc S' hy ⟨st3, ts, rfl, g3, rfl, hl, hk, ht⟩ N2 hN2
        obtain ⟨hk2, rfl⟩ := rng_get hy
        refine ⟨trivial, ?_⟩
        walk_at "dl"
        refine value_ok g3 fun st4 r g4 r0 r1 => ?_
        refine ⟨small_lt (by omega), hN2 _ _ ⟨st4, ts ++ [.val r], rfl, g4, by rw [List.map_append]; rfl, by simp; omega, by omega, fun d h => ?_⟩⟩
        rcases List.mem_append.mp h with h | h
        · exact ht d h
        · rw [List.mem_singleton.mp h]
          exact ⟨r0, r1⟩
      · rintro acc S' ⟨st3, ts, rfl, g3, rfl, hl, hk, ht⟩
        rw [rng_len] at hl
        refine ⟨trivial, ?_⟩
        walk_at "dl"
        exact ⟨small_lt (by omega), fin st3 ts g3 (by omega) ht⟩
    · walk_at "dl"
      refine ⟨by omega, by omega, ?_⟩
      refine compW_inv (fun k acc S' => ∃ ts, S' = B st2 (R ++ (.lst (rs.map encT) :: G)) ∧ acc = ts.map Tm.enc ∧ ts.length = k ∧ k ≤ 4 ∧ ∀ t ∈ ts, Tm.ok t) ⟨[], rfl, rfl, rfl, by decide, (by intro t h; cases h)⟩ ?_ ?_
      · rintro k y acc S' hy ⟨ts, rfl, rfl, hl, hk, ht⟩ N2 hN2
        obtain ⟨hk2, rfl⟩ := rng_get hy
        refine ⟨trivial, ?_⟩
        walk_at "dl"
        refine ⟨.inl (.inr ⟨by omega, by omega⟩), .inl (.inr ⟨by decide, by decide⟩), by decide, small_lt (by omega), hN2 _ _ ⟨ts ++ [.val _], rfl, by rw [List.map_append]; rfl, by simp; omega, by omega, fun d h => ?_⟩⟩
        rcases List.mem_append.mp h with h | h
        · exact ht d h
        · rw [List.mem_singleton.mp h]
          exact mod_ok
      · rintro acc S' ⟨ts, rfl, rfl, hl, hk, ht⟩
        rw [rng_len] at hl
        refine ⟨trivial, ?_⟩
        walk_at "dl"
        exact ⟨small_lt (by omega), fin st2 ts g2 (by omega) ht⟩
  · rintro env S' ⟨st2, rs, G, x5, x6, rfl, g2, hr, hi, ok, rfl⟩
    rw [rng_len] at hr hi
    refine ⟨trivial, ?_⟩
    walk_at "dl"
    exact endBT (st' := st2) _ cl (pure_rows rs) (q st2 rs g2 ⟨ok, by omega⟩)
theorem vc_rows : ∀ ws S Q, Closed S → F_rows ws S Q → d_law_rows F_draw F_value (endsW S.length Q) (startW N_law_rows.length ws) S := by
  rintro ws S Q cl ⟨st, R, long, rfl, rfl, g, l0, l4, q⟩
  show d_law_rows F_draw F_value _ [some (.ref 1), some (.int long), none, none, none, none, none] _
  show dSeq (dAsg (dCall F_draw (aCons (dVar 0) (aCons (dC (.int 6)) aNil))) (gNm 2)) (dSeq (dIfS (dB (dOp vEq (dCall F_draw (aCons (dVar 0) (aCons (dC (.int 13)) aNil))) (dC (.int 0)))) (dAsg (dOp vSub (dC (.int 300)) (dCall F_draw (aCons (dVar 0) (aCons (dC (.int 2)) aNil)))) (gNm 2)) dNext) (restRows F_draw F_value)) _ _ _
  walk_at "dl"
  refine draw_ok g (by decide) (by decide) fun st1 many g1 m0 m6 => ?_
  walk_at "dl"
  refine draw_ok g1 (by decide) (by decide) fun st2 c g2 c0 c13 => ?_
  walk_at "dl"
  split
  · refine draw_ok g2 (by decide) (by decide) fun st3 c g3 c0 c2 => ?_
    walk_at "dl"
    exact vc_rest cl g3 l0 l4 (by omega) (by omega) q
  · exact vc_rest cl g2 l0 l4 (by omega) (by omega) q
/-! ### _law_lots -/
theorem alike_strs (xs : List Str) : PySem.W.AllAlike ((xs.map W.str).map datW) := by
  intro x hx y hy
  rw [List.map_map] at hx hy
  obtain ⟨a, _, rfl⟩ := List.mem_map.mp hx
  obtain ⟨b, _, rfl⟩ := List.mem_map.mp hy
  rfl
theorem sortable_strs (xs : List Str) : PySem.W.Sortable ((xs.map W.str).map datW) := by
  refine .inr fun x hx => ?_
  rw [List.map_map] at hx
  obtain ⟨a, _, rfl⟩ := List.mem_map.mp hx
  show PyData.str a ≠ .none ∧ ∀ ys, PyData.str a ≠ .tuple ys
  exact ⟨by simp, by simp⟩
theorem depth_strs (xs : List Str) : ∀ w ∈ xs.map W.str, (datW w).depth ≤ 60 := by
  intro w hw
  obtain ⟨a, _, rfl⟩ := List.mem_map.mp hw
  show (PyData.str a).depth ≤ 60
  simp only [PyData.depth]
  decide
def strLe (a b : Str) : Bool := leW (.str a) (.str b)
theorem sorted_strs (xs : List Str) : (xs.map W.str).mergeSort leW = (xs.mergeSort strLe).map W.str :=
  (List.map_mergeSort (r := strLe) (s := leW) (f := W.str) (l := xs) fun _ _ _ _ => rfl).symm
def F_lotsgen : DSpec := fun ws S Q => ∃ st R ts ds, ws = [.ref 1, encH ts ds] ∧ S = B st R ∧ Good st ∧ OkHouse ds ∧ ∀ st' ls, Good st' → OkLs ls → ls.length ≤ 6 → Q (encL ls) (B st' R)
theorem pure_lots (ls : List (List Str)) : (encL ls).pure = true := by
  show W.pureL (ls.map fun l => DL.W.tup (l.map W.str)) = true
  refine pureL_of fun w hw => ?_
  obtain ⟨t, _, rfl⟩ := List.mem_map.mp hw
  exact pureL_strs t
theorem vc_lotsgen : ∀ ws S Q, Closed S → F_lotsgen ws S Q → d_law_lots F_draw (endsW S.length Q) (startW N_law_lots.length ws) S := by
  rintro ws S Q cl ⟨st, R, ts, ds, rfl, rfl, g, hok, q⟩
  show d_law_lots F_draw _ [some (.ref 1), some (encH ts ds), none, none, none, none, none] _
  unfold d_law_lots
  walk_at "dl"
  refine compW_map (r := fun d : Door => .str d.name) trivial (small_line (by have := hok.len; omega)) ?_ ?_
  · intro d hd N acc ha hN
    unfold Door.enc
    walk_at "dl"
    exact ⟨ha, hN⟩
  walk_at "dl"
  refine ⟨by decide, ?_⟩
  have e6 : cutW (ds.map fun d => .str d.name) none (some 6) = ((ds.map Door.name).take 6).map W.str := by
    rw [show (6 : Int) = ((6 : Nat) : Int) from rfl, cut_to, List.map_take, List.map_map]
    rfl
  rw [e6]
  have hn6 : ((ds.map Door.name).take 6).length ≤ 6 := by rw [List.length_take]; omega
  have hok8 : ∀ x ∈ (ds.map Door.name).take 6, x.length ≤ 8 := fun x hx => by
    obtain ⟨d, hd, rfl⟩ := List.mem_map.mp (List.mem_of_mem_take hx)
    exact (hok.ok d hd).1
  generalize (ds.map Door.name).take 6 = names at hn6 hok8
  refine draw_ok g (by decide) (by decide) fun st1 many g1 m0 m7 => ?_
  walk_at "dl"
  refine ⟨by omega, by omega, ?_⟩
  generalize O.lst (List.map (fun d : Door => W.str d.name) ds) = X
  refine forW_inv (fun i env S' => ∃ (st : Dr) (ls : List (List Str)) (G : List O) (x4 x5 x6 : Option DL.W), S' = B st (R ++ (X :: stro names :: .lst (ls.map fun l => DL.W.tup (l.map W.str)) :: G)) ∧ Good st ∧ ls.length = i ∧ i ≤ 6 ∧ (∀ l ∈ ls, OkTs (l.map Tm.mark)) ∧
      env = [some (.ref 1), some (encH ts ds), some (.ref (R.length + 1 + 1 + 1)), some (.ref (R.length + 1 + 1 + 1 + 1)), x4, x5, x6]) ⟨st1, [], [], _, _, _, rfl, g1, rfl, by decide, (by intro t h; cases h), rfl⟩ ?_ ?_
  · rintro i x env S' hx ⟨st2, ls, G, x4, x5, x6, rfl, g2, hl, hi, ok, rfl⟩ N hN
    obtain ⟨hi2, rfl⟩ := rng_get hx
    refine ⟨trivial, ?_⟩
    walk_at "dl"
    refine compW_inv (fun k acc S' => ∃ st xs, S' = B st (R ++ (X :: stro names :: .lst (ls.map fun l => DL.W.tup (l.map W.str)) :: G)) ∧ Good st ∧ acc = xs.map W.str ∧ xs.length ≤ k ∧ k ≤ 6 ∧ ∀ x ∈ xs, x.length ≤ 8) ⟨st2, [], rfl, g2, rfl, by decide, by decide, (by intro t h; cases h)⟩ ?_ ?_
    · rintro k y acc S' hy ⟨st3, xs, rfl, g3, rfl, hxl, hk, hx8⟩ N2 hN2
      rw [List.getElem?_map] at hy
      obtain ⟨nm, hnm, rfl⟩ := Option.map_eq_some_iff.mp hy
      have hmem := List.mem_of_getElem? hnm
      have hk6 : k < names.length := (List.getElem?_eq_some_iff.mp hnm).1
      refine ⟨by simp [stro], ?_⟩
      walk_at "dl"
      refine draw_ok g3 (by decide) (by decide) fun st4 r g4 r0 r2 => ?_
      walk_at "dl"
      split
      · refine ⟨small_lt (by omega), hN2 _ _ ⟨st4, xs ++ [nm], rfl, g4, by rw [List.map_append]; rfl, by simp; omega, by omega, fun d h => ?_⟩⟩
        rcases List.mem_append.mp h with h | h
        · exact hx8 d h
        · rw [List.mem_singleton.mp h]
          exact hok8 _ hmem
      · exact hN2 _ _ ⟨st4, xs, rfl, g4, rfl, by omega, by omega, hx8⟩
    · rintro acc S' ⟨st3, xs, rfl, g3, rfl, hxl, hk, hx8⟩
      rw [List.length_map] at hxl
      refine ⟨by simp [stro], ?_⟩
      walk_at "dl"
      refine ⟨xs.map W.str, by simp [stro], pureL_strs xs, alike_strs xs, sortable_strs xs, depth_strs xs, ?_⟩
      rw [sorted_strs]
      walk_at "dl"
      refine ⟨small_lt (by omega), hN _ _ ⟨st3, ls ++ [xs.mergeSort strLe], G ++ [stro xs, stro (xs.mergeSort strLe)], _, _, _, ?_, g3, by simp; omega, by omega, fun l h => ?_, rfl⟩⟩
      · simp only [stro, List.map_append, List.append_assoc]
        rfl
      · rcases List.mem_append.mp h with h | h
        · exact ok l h
        · rw [List.mem_singleton.mp h]
          refine ⟨fun t ht => ?_, by rw [List.length_map, List.length_mergeSort]; omega⟩
          obtain ⟨z, hz, rfl⟩ := List.mem_map.mp ht
          exact hx8 z (List.mem_mergeSort.mp hz)
  · rintro env S' ⟨st2, ls, G, x4, x5, x6, rfl, g2, hl, hi, ok, rfl⟩
    rw [rng_len] at hl hi
    refine ⟨trivial, ?_⟩
    walk_at "dl"
    exact endBT (st' := st2) _ cl (pure_lots ls) (q st2 ls g2 ⟨ok, by omega⟩ (by omega))
end K92

namespace K92
open PySem PySem.Spec PyProof.Rows L2 TL DL
local macro_rules | `(tactic| walk_at "dl") => `(tactic| try simp (config := { decide := false }) only [e_seq, e_asg, e_nm, e_op, e_un, e_cb, e_c, e_var, e_ifs, e_tru, e_B, e_drop, e_bm, e_bm0, e_ret, e_retN, e_next, e_break, e_cont, e_nil, e_cons, e_tup, e_lst, e_sl, e_onone, e_osome, e_gsub, e_call, e_callk, e_and, e_or, e_not, e_andv, e_orv, e_notv, e_if, e_par, e_for, e_comp, e_iseq, e_rng1, e_yes, e_gtp, e_gc, e_gn0,
  e_addI, e_addS, e_addT, e_addL, e_i20, e_i2, e_neg, e_cmpI, e_cmpS, e_eqI, e_eqS, e_eqB, e_ixT, e_ixLit, e_ixL, e_ixS, e_set, e_slT, e_slLit, e_slS, e_slL, e_lenS, e_lenT, e_lenLit, e_lenL, e_i1, e_intI, e_intB, e_strI, e_strS, e_listT, e_listLit, e_listL, e_tupleT, e_tupleL, e_append, e_pop0, e_tyL, e_tyS, e_truL, e_truT, e_truB, e_truI, e_truS, e_truN, e_seqT, e_seqLit, e_seqL, e_in, e_inT, e_isi, kit_ll, kit_ss, tyW_L, tyW_S, tyW_T, tyW_I, tyW_B, cut_to1, cut_to2, cut_from1, wipeW_nil, wipeW_cons, Nat.reduceAdd, eq_self, List.map_cons, List.map_nil,
  atI_0, atI_1, atI_2, atI_3, atI_end, ixN_0, ixN_1, ixN_11, ixN_last, List.map_append, List.map_cons, List.map_nil, get_app, get_app0, set_app, set_app0, List.cons_append, List.nil_append, List.append_assoc, List.length_append, List.length_cons, List.length_nil, Nat.zero_add, List.length_map, List.length_set,
  List.getElem?_cons_zero, List.getElem?_cons_succ, List.set_cons_zero, List.set_cons_succ, Option.some.injEq, exists_eq_left', exists_eq_left, exists_and_left, W.int.injEq, W.bl.injEq, W.str.injEq, W.tup.injEq, W.ref.injEq, O.lst.injEq, List.cons.injEq, reduceCtorEq, false_and, exists_false, or_false, false_or, true_and, and_true, decide_eq_true_eq, Bool.false_xor, Bool.true_xor, Bool.not_eq_true', decide_eq_false_iff_not, List.isEmpty_cons, List.isEmpty_nil, Bool.not_true, Bool.not_false, if_true, if_false, not_true_eq_false, not_false_eq_true, ne_eq, Bool.false_eq_true, reduceIte])

/-! ### law -/
def F_law : DSpec := fun ws S Q => ∃ ns : List Int, ws = [.lit (ns.map W.int)] ∧ S = [] ∧ ns.length ≤ 63 ∧ ∀ S', Q (.bl true) S'
theorem vc_law : ∀ ws S Q, Closed S → F_law ws S Q → d_law F_state F_tables F_house F_question F_rows F_lotsgen F_table F_table F_llines F_doors F_doors F_lots F_lots (endsW S.length Q) (startW N_law.length ws) S := by
  rintro ws S Q cl ⟨ns, rfl, rfl, hl, q⟩
  show d_law F_state F_tables F_house F_question F_rows F_lotsgen F_table F_table F_llines F_doors F_doors F_lots F_lots _ [some (.lit (ns.map W.int)), none, none, none, none, none, none, none, none, none, none, none] _
  unfold d_law
  walk_at "dl"
  refine ⟨ns, rfl, rfl, hl, fun st g => ?_⟩
  walk_at "dl"
  refine ⟨by decide, ?_⟩
  refine ⟨st, rfl, rfl, g, fun st1 ts marks g1 okt => ?_⟩
  walk_at "dl"
  refine ⟨st1, _, ts, rfl, rfl, g1, okt, fun st2 ds g2 okh => ?_⟩
  walk_at "dl"
  refine ⟨st2, _, ts, rfl, rfl, g2, okt, fun st3 given c cs g3 okq => ?_⟩
  walk_at "dl"
  obtain ⟨head, rw_⟩ := c
  obtain ⟨okh0, hl4, prw⟩ : OkTs head ∧ head.length ≤ 4 ∧ W.pureL rw_ = true := okq _ (List.mem_cons_self ..)
  unfold Case.enc
  walk_at "dl"
  refine ⟨st3, _, _, rfl, rfl, g3, by omega, by omega, fun st4 rs g4 okr => ?_⟩
  walk_at "dl"
  refine ⟨st4, _, ts, ds, rfl, rfl, g4, okh, fun st5 ls g5 okl l6 => ?_⟩
  walk_at "dl"
  have hls : DL.W.tup ((ls.map fun l => DL.W.tup (l.map W.str)) ++ [.tup []]) = encL (ls ++ [[]]) := by
    rw [encL, List.map_append]
    rfl
  rw [hls]
  have okl2 : OkLs (ls ++ [[]]) := by
    refine ⟨fun l h => ?_, by rw [List.length_append]; show ls.length + 1 ≤ 400; omega⟩
    rcases List.mem_append.mp h with h | h
    · exact okl.ok l h
    · rw [List.mem_singleton.mp h]
      exact ⟨fun t h => (by cases h), by decide⟩
  generalize hlots : ls ++ [[]] = lots at okl2
  have hqok : QOk (encQ given ((head, rw_) :: cs)) head := ⟨_, _, _, rfl⟩
  generalize hQ : encQ given ((head, rw_) :: cs) = qw at hqok
  refine ⟨by decide, by decide, small_line (by omega), by decide, ?_⟩
  generalize B st5 [stro marks] = P
  refine table_ok hqok okh0 okr ?_
  refine table_ok hqok okh0 okr ?_
  walk_at "dl"
  have hlen : (table head rs).length ≤ 1000 := by
    have := okr.len
    show (rs.map line).length + 1 + 1 ≤ 1000
    rw [List.length_map]
    omega
  refine llines_ok (a := table head rs) (by simp) (by simp) hlen ?_
  walk_at "dl"
  rw [e_ixL (ws := (table head rs).map W.str) (w := .str (line head)) (by simp [stro]) (by unfold table; exact atI_0)]
  walk_at "dl"
  refine ⟨small_lt (by omega), ?_⟩
  generalize O.lst (((table head rs).map W.str ++ [W.str (line head)]).set 0 (W.str (Str.ofString "spoilt"))) = X1
  have hp : permL [1, 0] [encR rs, W.tup [W.tup (given.map W.str), W.tup [W.tup [encT head, W.tup rw_]]]] = [W.tup [W.tup (given.map W.str), W.tup [W.tup [encT head, W.tup rw_]]], encR rs] := rfl
  rw [hp]
  refine table_ok (head := head) ⟨_, _, _, rfl⟩ okh0 okr ?_
  walk_at "dl"
  refine llines_ok (a := table head rs) (by simp) (by simp) hlen ?_
  walk_at "dl"
  refine ⟨by decide, ?_⟩
  have e0 : (W.tup [] : DL.W) = encR [] := rfl
  refine table_ok (rs := []) hqok okh0 ⟨fun r h => (by cases h), by decide⟩ ?_
  walk_at "dl"
  have e2 : cutW ((table head rs).map W.str) none (some 2) = (table head []).map W.str := by
    unfold table
    exact cut_to2
  rw [e2]
  refine llines_ok (a := table head []) (by simp) (by simp [stro]) (by show 2 ≤ 1000; decide) ?_
  walk_at "dl"
  have okd : OkDs ds := ⟨okh.ok, by have := okh.len; omega⟩
  have hh : HOk (encH ts ds) ds := ⟨_, _, _, _, _, rfl⟩
  have dlen : (ds.map Door.line).length ≤ 1000 := by
    rw [List.length_map]
    have := okh.len
    omega
  refine doors_ok hh okd ?_
  refine doors_ok hh okd ?_
  walk_at "dl"
  refine llines_ok (a := ds.map Door.line) (by simp) (by simp) dlen ?_
  walk_at "dl"
  refine ⟨small_lt (by have := okh.len; omega), ?_⟩
  have hp : permL [0] [encH ts ds] = [encH ts ds] := rfl
  rw [hp]
  refine doors_ok hh okd ?_
  walk_at "dl"
  refine llines_ok (a := ds.map Door.line) (by simp) (by simp) dlen ?_
  walk_at "dl"
  refine ⟨by decide, by decide, by decide, by decide, by decide, by decide, ?_⟩
  refine doors_ok (ds := []) ⟨_, _, _, _, _, rfl⟩ ⟨fun r h => (by cases h), by decide⟩ ?_
  walk_at "dl"
  refine ⟨by decide, ?_⟩
  refine llines_ok (a := []) (by simp) (by simp [stro]) (by decide) ?_
  walk_at "dl"
  refine lots_ok okl2 ?_
  refine lots_ok okl2 ?_
  walk_at "dl"
  subst hlots
  have llen : ((ls ++ [[]]).map lotLine).length ≤ 1000 := by
    rw [List.length_map, List.length_append]
    show ls.length + 1 ≤ 1000
    omega
  refine llines_ok (a := (ls ++ [[]]).map lotLine) (by simp) (by simp) llen ?_
  walk_at "dl"
  rw [e_pop0 (ws := (ls.map lotLine).map W.str) (w := .str (lotLine [])) (by simp [stro])]
  walk_at "dl"
  have hp2 : permL [0] [encL (ls ++ [[]])] = [encL (ls ++ [[]])] := rfl
  rw [hp2]
  refine lots_ok okl2 ?_
  walk_at "dl"
  refine llines_ok (a := (ls ++ [[]]).map lotLine) (by simp) (by simp) llen ?_
  walk_at "dl"
  refine ⟨by decide, ?_⟩
  refine lots_ok (ls := []) ⟨fun r h => (by cases h), by decide⟩ ?_
  walk_at "dl"
  refine ⟨by decide, ?_⟩
  refine llines_ok (a := []) (by simp) (by simp [stro]) (by decide) ?_
  walk_at "dl"
  refine ⟨by decide, by decide, by decide, by decide, by decide, by decide, by decide, ?_⟩
  refine table_ok (head := []) (rs := [[]]) ⟨_, _, _, rfl⟩ ⟨fun r h => (by cases h), by decide⟩ ⟨fun r h => ?_, by decide⟩ ?_
  · rw [List.mem_singleton.mp h]
    exact ⟨fun r h => (by cases h), by decide⟩
  walk_at "dl"
  refine ⟨by decide, ?_⟩
  refine llines_ok (a := [yes, dash, yes]) (by simp [table, line]) (by simp [stro, yes, dash]) (by decide) ?_
  exact Ends0.drop (S0 := []) _ (Nat.le_refl _) cl rfl (q _)
end K92

namespace K92
open PySem PySem.Spec PyProof.Rows L2 TL DL
section
variable {P : Program} {w : World} {K : Fg} {mg : Str → Option Value} {base : Heap}
theorem ok_all (T : Txt mg) (t_law_state : TFun K mg "_law_state" s_law_state ["script"]) (t_law_draw : TFun K mg "_law_draw" s_law_draw ["state", "many"]) (t_law_spelled : TFun K mg "_law_spelled" s_law_spelled ["number"]) (t_law_name : TFun K mg "_law_name" s_law_name ["state", "taken"]) (t_law_tables : TFun K mg "_law_tables" s_law_tables ["state", "names"]) (t_law_house : TFun K mg "_law_house" s_law_house ["state", "tables"]) (t_law_value : TFun K mg "_law_value" s_law_value ["state"]) (t_law_question : TFun K mg "_law_question" s_law_question ["state", "tables"]) (t_law_rows : TFun K mg "_law_rows" s_law_rows ["state", "long"]) (t_law_lots : TFun K mg "_law_lots" s_law_lots ["state", "house"]) (t_law_terms_line : TFun K mg "_law_terms_line" s_law_terms_line ["terms"]) (t_law_answer_lines : TFun K mg "_law_answer_lines" s_law_answer_lines ["question", "rows"]) (t_terms_line : TFun K mg "terms_line" s_terms_line ["terms"]) (t_answer_lines : TFun K mg "answer_lines" s_answer_lines ["rows"]) (t_answer_table : TFun K mg "answer_table" s_answer_table ["question", "rows"]) (t_law_lines : TFun K mg "_law_lines" s_law_lines ["told", "due"]) (t_law_door_lines : TFun K mg "_law_door_lines" s_law_door_lines ["house"]) (t_door_table : TFun K mg "door_table" s_door_table ["house"]) (t_law_lot_lines : TFun K mg "_law_lot_lines" s_law_lot_lines ["lots"]) (t_lot_lines : TFun K mg "lot_lines" s_lot_lines ["lots"]) {fl : Addr} {fdl : FuncData} (Fu : Fun K "law" "law" s_law fl fdl) : FnOk P w K mg base CX0 4 fl fdl ["script"] (spOf K F_law) := by
  have D_law_state : TDef P w K mg base 1 "_law_state" s_law_state ["script"] F_state := TFun.ok t_law_state sc_law_state (der_law_state T) (fun _ _ _ ⟨_, e, _⟩ => by rw [e]; rfl) vc_state
  have D_law_draw : TDef P w K mg base 1 "_law_draw" s_law_draw ["state", "many"] F_draw := TFun.ok t_law_draw sc_law_draw (der_law_draw T) (fun _ _ _ ⟨_, _, _, e, _⟩ => by rw [e]; rfl) vc_draw
  have D_law_spelled : TDef P w K mg base 1 "_law_spelled" s_law_spelled ["number"] F_spelled := TFun.ok t_law_spelled sc_law_spelled (der_law_spelled T) (fun _ _ _ ⟨_, e, _⟩ => by rw [e]; rfl) vc_spelled
  have D_law_name : TDef P w K mg base 2 "_law_name" s_law_name ["state", "taken"] F_name := TFun.ok t_law_name sc_law_name (der_law_name T D_law_draw D_law_spelled) (fun _ _ _ ⟨_, _, _, _, e, _⟩ => by rw [e]; rfl) vc_name
  have D_law_tables : TDef P w K mg base 3 "_law_tables" s_law_tables ["state", "names"] F_tables := TFun.ok t_law_tables sc_law_tables (der_law_tables T D_law_draw D_law_name) (fun _ _ _ ⟨_, e, _⟩ => by rw [e]; rfl) vc_tables
  have D_law_house : TDef P w K mg base 3 "_law_house" s_law_house ["state", "tables"] F_house := TFun.ok t_law_house sc_law_house (der_law_house T D_law_draw D_law_name) (fun _ _ _ ⟨_, _, _, e, _⟩ => by rw [e]; rfl) vc_house
  have D_law_value : TDef P w K mg base 2 "_law_value" s_law_value ["state"] F_value := TFun.ok t_law_value sc_law_value (der_law_value T D_law_draw) (fun _ _ _ ⟨_, _, e, _⟩ => by rw [e]; rfl) vc_value
  have D_law_question : TDef P w K mg base 3 "_law_question" s_law_question ["state", "tables"] F_question := TFun.ok t_law_question sc_law_question (der_law_question T D_law_draw D_law_name D_law_value) (fun _ _ _ ⟨_, _, _, e, _⟩ => by rw [e]; rfl) vc_question
  have D_law_rows : TDef P w K mg base 3 "_law_rows" s_law_rows ["state", "long"] F_rows := TFun.ok t_law_rows sc_law_rows (der_law_rows T D_law_draw D_law_value) (fun _ _ _ ⟨_, _, _, e, _⟩ => by rw [e]; rfl) vc_rows
  have D_law_lots : TDef P w K mg base 2 "_law_lots" s_law_lots ["state", "house"] F_lotsgen := TFun.ok t_law_lots sc_law_lots (der_law_lots T D_law_draw) (fun _ _ _ ⟨_, _, _, _, e, _⟩ => by rw [e]; rfl) vc_lotsgen
  have D_law_terms_line : TDef P w K mg base 1 "_law_terms_line" s_law_terms_line ["terms"] F_lterms := TFun.ok t_law_terms_line sc_law_terms_line (der_law_terms_line T) (fun _ _ _ ⟨_, e, _⟩ => by rw [e]; rfl) vc_law_terms
  have D_law_answer_lines : TDef P w K mg base 2 "_law_answer_lines" s_law_answer_lines ["question", "rows"] F_table := TFun.ok t_law_answer_lines sc_law_answer_lines (der_law_answer_lines T D_law_terms_line) (fun _ _ _ ⟨_, _, _, e, _⟩ => by rw [e]; rfl) vc_law_answer
  have D_terms_line : TDef P w K mg base 1 "terms_line" s_terms_line ["terms"] F_terms := TFun.ok t_terms_line sc_terms_line (der_terms_line T) (fun _ _ _ ⟨_, e, _⟩ => by rw [e]; rfl) vc_terms_line
  have D_answer_lines : TDef P w K mg base 2 "answer_lines" s_answer_lines ["rows"] F_ansl := TFun.ok t_answer_lines sc_answer_lines (der_answer_lines T D_terms_line) (fun _ _ _ ⟨_, e, _⟩ => by rw [e]; rfl) vc_answer_lines
  have D_answer_table : TDef P w K mg base 3 "answer_table" s_answer_table ["question", "rows"] F_table := TFun.ok t_answer_table sc_answer_table (der_answer_table T D_terms_line D_answer_lines) (fun _ _ _ ⟨_, _, _, e, _⟩ => by rw [e]; rfl) vc_answer_table
  have D_law_lines : TDef P w K mg base 1 "_law_lines" s_law_lines ["told", "due"] F_llines := TFun.ok t_law_lines sc_law_lines (der_law_lines T) (fun _ _ _ ⟨_, _, _, e, _⟩ => by rw [e]; rfl) vc_law_lines
  have D_law_door_lines : TDef P w K mg base 2 "_law_door_lines" s_law_door_lines ["house"] F_doors := TFun.ok t_law_door_lines sc_law_door_lines (der_law_door_lines T D_law_terms_line) (fun _ _ _ ⟨_, _, e, _⟩ => by rw [e]; rfl) vc_law_doors
  have D_door_table : TDef P w K mg base 1 "door_table" s_door_table ["house"] F_doors := TFun.ok t_door_table sc_door_table (der_door_table T) (fun _ _ _ ⟨_, _, e, _⟩ => by rw [e]; rfl) vc_door_table
  have D_law_lot_lines : TDef P w K mg base 2 "_law_lot_lines" s_law_lot_lines ["lots"] F_lots := TFun.ok t_law_lot_lines sc_law_lot_lines (der_law_lot_lines T D_law_terms_line) (fun _ _ _ ⟨_, e, _⟩ => by rw [e]; rfl) vc_law_lots
  have D_lot_lines : TDef P w K mg base 1 "lot_lines" s_lot_lines ["lots"] F_lots := TFun.ok t_lot_lines sc_lot_lines (der_lot_lines T) (fun _ _ _ ⟨_, e, _⟩ => by rw [e]; rfl) vc_lot_lines
  exact fn_d Fu sc_law (fun _ _ _ ⟨_, e, _⟩ => by rw [e]; rfl) fun cdv A outer s H E hr => ⟨_, der_law T D_law_state D_law_tables D_law_house D_law_question D_law_rows D_law_lots D_law_answer_lines D_answer_table D_law_lines D_law_door_lines D_door_table D_law_lot_lines D_lot_lines fl cdv A outer s H E hr, vc_law⟩
end
theorem tfun_mk {K : Fg} {w : World} {h : Heap} {mg : Str → Option Value} {x : Str} {st : Stmt} {ps : List Str} {f : Addr} {oc : Value} {od an : Option Addr} {osl : Array (Option Value)} {kV doc pm cdv ct : Value} (X : K.In h) (G : h.Ns mainGlobals mg)
    (a : PySem.W.nsIn K mainGlobals x = some (some (.ref f))) (l : K.lookup f = some ⟨oc, od, .func (PySem.W.fnOf x x (defArgs st) (defBody st) (defScope st) .none kV doc pm an cdv ct), osl⟩) (c : PySem.W.codeIn K cdv x = true) (k : PySem.W.keepIn K (.ref f) = true)
    (b : ∀ (kV doc pm : Value) (an : Option Addr) (cdv ct : Value) (us : List Value), us.length = ps.length → bindArgs (PySem.W.fnOf x x (defArgs st) (defBody st) (defScope st) .none kV doc pm an cdv ct) ⟨us, []⟩ = pure (ps.zip us)) : TFun K mg x st ps :=
  ⟨f, _, fun_mk l c k, PySem.W.mg_of X G a, (fun_mk l c k).binds b⟩
theorem all_mk {l : PySem.W.OpenLaw} {w : World} {K : Fg} {h : Heap} {mg : Str → Option Value} {fa f0 f1 f2 f3 f4 f5 f6 f7 f8 f9 f10 f11 f12 f13 f14 f15 f16 f17 f18 f19 f20 : Addr} (X : K.In h) (G : h.Ns mainGlobals mg) (hfa : mg "law" = some (.ref fa))
    {od0 an0 : Option Addr} {sl0 : Array (Option Value)} {oc0 kV0 dc0 pm0 cd0 ct0 : Value}
    {od1 an1 : Option Addr} {sl1 : Array (Option Value)} {oc1 kV1 dc1 pm1 cd1 ct1 : Value}
    {od2 an2 : Option Addr} {sl2 : Array (Option Value)} {oc2 kV2 dc2 pm2 cd2 ct2 : Value}
    {od3 an3 : Option Addr} {sl3 : Array (Option Value)} {oc3 kV3 dc3 pm3 cd3 ct3 : Value}
    {od4 an4 : Option Addr} {sl4 : Array (Option Value)} {oc4 kV4 dc4 pm4 cd4 ct4 : Value}
    {od5 an5 : Option Addr} {sl5 : Array (Option Value)} {oc5 kV5 dc5 pm5 cd5 ct5 : Value}
    {od6 an6 : Option Addr} {sl6 : Array (Option Value)} {oc6 kV6 dc6 pm6 cd6 ct6 : Value}
    {od7 an7 : Option Addr} {sl7 : Array (Option Value)} {oc7 kV7 dc7 pm7 cd7 ct7 : Value}
    {od8 an8 : Option Addr} {sl8 : Array (Option Value)} {oc8 kV8 dc8 pm8 cd8 ct8 : Value}
    {od9 an9 : Option Addr} {sl9 : Array (Option Value)} {oc9 kV9 dc9 pm9 cd9 ct9 : Value}
    {od10 an10 : Option Addr} {sl10 : Array (Option Value)} {oc10 kV10 dc10 pm10 cd10 ct10 : Value}
    {od11 an11 : Option Addr} {sl11 : Array (Option Value)} {oc11 kV11 dc11 pm11 cd11 ct11 : Value}
    {od12 an12 : Option Addr} {sl12 : Array (Option Value)} {oc12 kV12 dc12 pm12 cd12 ct12 : Value}
    {od13 an13 : Option Addr} {sl13 : Array (Option Value)} {oc13 kV13 dc13 pm13 cd13 ct13 : Value}
    {od14 an14 : Option Addr} {sl14 : Array (Option Value)} {oc14 kV14 dc14 pm14 cd14 ct14 : Value}
    {od15 an15 : Option Addr} {sl15 : Array (Option Value)} {oc15 kV15 dc15 pm15 cd15 ct15 : Value}
    {od16 an16 : Option Addr} {sl16 : Array (Option Value)} {oc16 kV16 dc16 pm16 cd16 ct16 : Value}
    {od17 an17 : Option Addr} {sl17 : Array (Option Value)} {oc17 kV17 dc17 pm17 cd17 ct17 : Value}
    {od18 an18 : Option Addr} {sl18 : Array (Option Value)} {oc18 kV18 dc18 pm18 cd18 ct18 : Value}
    {od19 an19 : Option Addr} {sl19 : Array (Option Value)} {oc19 kV19 dc19 pm19 cd19 ct19 : Value}
    {od20 an20 : Option Addr} {sl20 : Array (Option Value)} {oc20 kV20 dc20 pm20 cd20 ct20 : Value}
    (a0 : PySem.W.nsIn K mainGlobals "_law_state" = some (some (.ref f0))) (l0 : K.lookup f0 = some ⟨oc0, od0, .func (PySem.W.fnOf "_law_state" "_law_state" (defArgs s_law_state) (defBody s_law_state) (defScope s_law_state) .none kV0 dc0 pm0 an0 cd0 ct0), sl0⟩) (c0 : PySem.W.codeIn K cd0 "_law_state" = true) (k0 : PySem.W.keepIn K (.ref f0) = true)
    (a1 : PySem.W.nsIn K mainGlobals "_law_draw" = some (some (.ref f1))) (l1 : K.lookup f1 = some ⟨oc1, od1, .func (PySem.W.fnOf "_law_draw" "_law_draw" (defArgs s_law_draw) (defBody s_law_draw) (defScope s_law_draw) .none kV1 dc1 pm1 an1 cd1 ct1), sl1⟩) (c1 : PySem.W.codeIn K cd1 "_law_draw" = true) (k1 : PySem.W.keepIn K (.ref f1) = true)
    (a2 : PySem.W.nsIn K mainGlobals "_law_spelled" = some (some (.ref f2))) (l2 : K.lookup f2 = some ⟨oc2, od2, .func (PySem.W.fnOf "_law_spelled" "_law_spelled" (defArgs s_law_spelled) (defBody s_law_spelled) (defScope s_law_spelled) .none kV2 dc2 pm2 an2 cd2 ct2), sl2⟩) (c2 : PySem.W.codeIn K cd2 "_law_spelled" = true) (k2 : PySem.W.keepIn K (.ref f2) = true)
    (a3 : PySem.W.nsIn K mainGlobals "_law_name" = some (some (.ref f3))) (l3 : K.lookup f3 = some ⟨oc3, od3, .func (PySem.W.fnOf "_law_name" "_law_name" (defArgs s_law_name) (defBody s_law_name) (defScope s_law_name) .none kV3 dc3 pm3 an3 cd3 ct3), sl3⟩) (c3 : PySem.W.codeIn K cd3 "_law_name" = true) (k3 : PySem.W.keepIn K (.ref f3) = true)
    (a4 : PySem.W.nsIn K mainGlobals "_law_tables" = some (some (.ref f4))) (l4 : K.lookup f4 = some ⟨oc4, od4, .func (PySem.W.fnOf "_law_tables" "_law_tables" (defArgs s_law_tables) (defBody s_law_tables) (defScope s_law_tables) .none kV4 dc4 pm4 an4 cd4 ct4), sl4⟩) (c4 : PySem.W.codeIn K cd4 "_law_tables" = true) (k4 : PySem.W.keepIn K (.ref f4) = true)
    (a5 : PySem.W.nsIn K mainGlobals "_law_house" = some (some (.ref f5))) (l5 : K.lookup f5 = some ⟨oc5, od5, .func (PySem.W.fnOf "_law_house" "_law_house" (defArgs s_law_house) (defBody s_law_house) (defScope s_law_house) .none kV5 dc5 pm5 an5 cd5 ct5), sl5⟩) (c5 : PySem.W.codeIn K cd5 "_law_house" = true) (k5 : PySem.W.keepIn K (.ref f5) = true)
    (a6 : PySem.W.nsIn K mainGlobals "_law_value" = some (some (.ref f6))) (l6 : K.lookup f6 = some ⟨oc6, od6, .func (PySem.W.fnOf "_law_value" "_law_value" (defArgs s_law_value) (defBody s_law_value) (defScope s_law_value) .none kV6 dc6 pm6 an6 cd6 ct6), sl6⟩) (c6 : PySem.W.codeIn K cd6 "_law_value" = true) (k6 : PySem.W.keepIn K (.ref f6) = true)
    (a7 : PySem.W.nsIn K mainGlobals "_law_question" = some (some (.ref f7))) (l7 : K.lookup f7 = some ⟨oc7, od7, .func (PySem.W.fnOf "_law_question" "_law_question" (defArgs s_law_question) (defBody s_law_question) (defScope s_law_question) .none kV7 dc7 pm7 an7 cd7 ct7), sl7⟩) (c7 : PySem.W.codeIn K cd7 "_law_question" = true) (k7 : PySem.W.keepIn K (.ref f7) = true)
    (a8 : PySem.W.nsIn K mainGlobals "_law_rows" = some (some (.ref f8))) (l8 : K.lookup f8 = some ⟨oc8, od8, .func (PySem.W.fnOf "_law_rows" "_law_rows" (defArgs s_law_rows) (defBody s_law_rows) (defScope s_law_rows) .none kV8 dc8 pm8 an8 cd8 ct8), sl8⟩) (c8 : PySem.W.codeIn K cd8 "_law_rows" = true) (k8 : PySem.W.keepIn K (.ref f8) = true)
    (a9 : PySem.W.nsIn K mainGlobals "_law_lots" = some (some (.ref f9))) (l9 : K.lookup f9 = some ⟨oc9, od9, .func (PySem.W.fnOf "_law_lots" "_law_lots" (defArgs s_law_lots) (defBody s_law_lots) (defScope s_law_lots) .none kV9 dc9 pm9 an9 cd9 ct9), sl9⟩) (c9 : PySem.W.codeIn K cd9 "_law_lots" = true) (k9 : PySem.W.keepIn K (.ref f9) = true)
    (a10 : PySem.W.nsIn K mainGlobals "_law_terms_line" = some (some (.ref f10))) (l10 : K.lookup f10 = some ⟨oc10, od10, .func (PySem.W.fnOf "_law_terms_line" "_law_terms_line" (defArgs s_law_terms_line) (defBody s_law_terms_line) (defScope s_law_terms_line) .none kV10 dc10 pm10 an10 cd10 ct10), sl10⟩) (c10 : PySem.W.codeIn K cd10 "_law_terms_line" = true) (k10 : PySem.W.keepIn K (.ref f10) = true)
    (a11 : PySem.W.nsIn K mainGlobals "_law_answer_lines" = some (some (.ref f11))) (l11 : K.lookup f11 = some ⟨oc11, od11, .func (PySem.W.fnOf "_law_answer_lines" "_law_answer_lines" (defArgs s_law_answer_lines) (defBody s_law_answer_lines) (defScope s_law_answer_lines) .none kV11 dc11 pm11 an11 cd11 ct11), sl11⟩) (c11 : PySem.W.codeIn K cd11 "_law_answer_lines" = true) (k11 : PySem.W.keepIn K (.ref f11) = true)
    (a12 : PySem.W.nsIn K mainGlobals "terms_line" = some (some (.ref f12))) (l12 : K.lookup f12 = some ⟨oc12, od12, .func (PySem.W.fnOf "terms_line" "terms_line" (defArgs s_terms_line) (defBody s_terms_line) (defScope s_terms_line) .none kV12 dc12 pm12 an12 cd12 ct12), sl12⟩) (c12 : PySem.W.codeIn K cd12 "terms_line" = true) (k12 : PySem.W.keepIn K (.ref f12) = true)
    (a13 : PySem.W.nsIn K mainGlobals "answer_lines" = some (some (.ref f13))) (l13 : K.lookup f13 = some ⟨oc13, od13, .func (PySem.W.fnOf "answer_lines" "answer_lines" (defArgs s_answer_lines) (defBody s_answer_lines) (defScope s_answer_lines) .none kV13 dc13 pm13 an13 cd13 ct13), sl13⟩) (c13 : PySem.W.codeIn K cd13 "answer_lines" = true) (k13 : PySem.W.keepIn K (.ref f13) = true)
    (a14 : PySem.W.nsIn K mainGlobals "answer_table" = some (some (.ref f14))) (l14 : K.lookup f14 = some ⟨oc14, od14, .func (PySem.W.fnOf "answer_table" "answer_table" (defArgs s_answer_table) (defBody s_answer_table) (defScope s_answer_table) .none kV14 dc14 pm14 an14 cd14 ct14), sl14⟩) (c14 : PySem.W.codeIn K cd14 "answer_table" = true) (k14 : PySem.W.keepIn K (.ref f14) = true)
    (a15 : PySem.W.nsIn K mainGlobals "_law_lines" = some (some (.ref f15))) (l15 : K.lookup f15 = some ⟨oc15, od15, .func (PySem.W.fnOf "_law_lines" "_law_lines" (defArgs s_law_lines) (defBody s_law_lines) (defScope s_law_lines) .none kV15 dc15 pm15 an15 cd15 ct15), sl15⟩) (c15 : PySem.W.codeIn K cd15 "_law_lines" = true) (k15 : PySem.W.keepIn K (.ref f15) = true)
    (a16 : PySem.W.nsIn K mainGlobals "_law_door_lines" = some (some (.ref f16))) (l16 : K.lookup f16 = some ⟨oc16, od16, .func (PySem.W.fnOf "_law_door_lines" "_law_door_lines" (defArgs s_law_door_lines) (defBody s_law_door_lines) (defScope s_law_door_lines) .none kV16 dc16 pm16 an16 cd16 ct16), sl16⟩) (c16 : PySem.W.codeIn K cd16 "_law_door_lines" = true) (k16 : PySem.W.keepIn K (.ref f16) = true)
    (a17 : PySem.W.nsIn K mainGlobals "door_table" = some (some (.ref f17))) (l17 : K.lookup f17 = some ⟨oc17, od17, .func (PySem.W.fnOf "door_table" "door_table" (defArgs s_door_table) (defBody s_door_table) (defScope s_door_table) .none kV17 dc17 pm17 an17 cd17 ct17), sl17⟩) (c17 : PySem.W.codeIn K cd17 "door_table" = true) (k17 : PySem.W.keepIn K (.ref f17) = true)
    (a18 : PySem.W.nsIn K mainGlobals "_law_lot_lines" = some (some (.ref f18))) (l18 : K.lookup f18 = some ⟨oc18, od18, .func (PySem.W.fnOf "_law_lot_lines" "_law_lot_lines" (defArgs s_law_lot_lines) (defBody s_law_lot_lines) (defScope s_law_lot_lines) .none kV18 dc18 pm18 an18 cd18 ct18), sl18⟩) (c18 : PySem.W.codeIn K cd18 "_law_lot_lines" = true) (k18 : PySem.W.keepIn K (.ref f18) = true)
    (a19 : PySem.W.nsIn K mainGlobals "lot_lines" = some (some (.ref f19))) (l19 : K.lookup f19 = some ⟨oc19, od19, .func (PySem.W.fnOf "lot_lines" "lot_lines" (defArgs s_lot_lines) (defBody s_lot_lines) (defScope s_lot_lines) .none kV19 dc19 pm19 an19 cd19 ct19), sl19⟩) (c19 : PySem.W.codeIn K cd19 "lot_lines" = true) (k19 : PySem.W.keepIn K (.ref f19) = true)
    (a20 : PySem.W.nsIn K mainGlobals "law" = some (some (.ref f20))) (l20 : K.lookup f20 = some ⟨oc20, od20, .func (PySem.W.fnOf "law" "law" (defArgs s_law) (defBody s_law) (defScope s_law) .none kV20 dc20 pm20 an20 cd20 ct20), sl20⟩) (c20 : PySem.W.codeIn K cd20 "law" = true) (k20 : PySem.W.keepIn K (.ref f20) = true)
    (z0 : PySem.W.nsIn K mainGlobals "str" = some none) (z1 : PySem.W.nsIn K mainGlobals "abs" = some none) (z2 : PySem.W.nsIn K mainGlobals "int" = some none) (z3 : PySem.W.nsIn K mainGlobals "range" = some none) (z4 : PySem.W.nsIn K mainGlobals "list" = some none) (z5 : PySem.W.nsIn K mainGlobals "len" = some none) (z6 : PySem.W.nsIn K mainGlobals "tuple" = some none) (z7 : PySem.W.nsIn K mainGlobals "sorted" = some none) (z8 : PySem.W.nsIn K mainGlobals "isinstance" = some none)
    : ∃ fd : FuncData, (∀ (s : Shared) (v : Value), BindsTo s fd ⟨[v], []⟩ [("script", v)]) ∧ ∀ base : Heap, K.In base → base.Ns mainGlobals mg → FnOk l.prog w K mg base CX0 4 fa fd ["script"] (spOf K F_law) := by
  have e := hfa.symm.trans (PySem.W.mg_of X G a20)
  cases e
  have t0 : TFun K mg "_law_state" s_law_state ["script"] := tfun_mk (w := w) X G a0 l0 c0 k0 fun _ _ _ _ _ _ us hl => match us, hl with | [_], _ => rfl
  have t1 : TFun K mg "_law_draw" s_law_draw ["state", "many"] := tfun_mk (w := w) X G a1 l1 c1 k1 fun _ _ _ _ _ _ us hl => match us, hl with | [_, _], _ => rfl
  have t2 : TFun K mg "_law_spelled" s_law_spelled ["number"] := tfun_mk (w := w) X G a2 l2 c2 k2 fun _ _ _ _ _ _ us hl => match us, hl with | [_], _ => rfl
  have t3 : TFun K mg "_law_name" s_law_name ["state", "taken"] := tfun_mk (w := w) X G a3 l3 c3 k3 fun _ _ _ _ _ _ us hl => match us, hl with | [_, _], _ => rfl
  have t4 : TFun K mg "_law_tables" s_law_tables ["state", "names"] := tfun_mk (w := w) X G a4 l4 c4 k4 fun _ _ _ _ _ _ us hl => match us, hl with | [_, _], _ => rfl
  have t5 : TFun K mg "_law_house" s_law_house ["state", "tables"] := tfun_mk (w := w) X G a5 l5 c5 k5 fun _ _ _ _ _ _ us hl => match us, hl with | [_, _], _ => rfl
  have t6 : TFun K mg "_law_value" s_law_value ["state"] := tfun_mk (w := w) X G a6 l6 c6 k6 fun _ _ _ _ _ _ us hl => match us, hl with | [_], _ => rfl
  have t7 : TFun K mg "_law_question" s_law_question ["state", "tables"] := tfun_mk (w := w) X G a7 l7 c7 k7 fun _ _ _ _ _ _ us hl => match us, hl with | [_, _], _ => rfl
  have t8 : TFun K mg "_law_rows" s_law_rows ["state", "long"] := tfun_mk (w := w) X G a8 l8 c8 k8 fun _ _ _ _ _ _ us hl => match us, hl with | [_, _], _ => rfl
  have t9 : TFun K mg "_law_lots" s_law_lots ["state", "house"] := tfun_mk (w := w) X G a9 l9 c9 k9 fun _ _ _ _ _ _ us hl => match us, hl with | [_, _], _ => rfl
  have t10 : TFun K mg "_law_terms_line" s_law_terms_line ["terms"] := tfun_mk (w := w) X G a10 l10 c10 k10 fun _ _ _ _ _ _ us hl => match us, hl with | [_], _ => rfl
  have t11 : TFun K mg "_law_answer_lines" s_law_answer_lines ["question", "rows"] := tfun_mk (w := w) X G a11 l11 c11 k11 fun _ _ _ _ _ _ us hl => match us, hl with | [_, _], _ => rfl
  have t12 : TFun K mg "terms_line" s_terms_line ["terms"] := tfun_mk (w := w) X G a12 l12 c12 k12 fun _ _ _ _ _ _ us hl => match us, hl with | [_], _ => rfl
  have t13 : TFun K mg "answer_lines" s_answer_lines ["rows"] := tfun_mk (w := w) X G a13 l13 c13 k13 fun _ _ _ _ _ _ us hl => match us, hl with | [_], _ => rfl
  have t14 : TFun K mg "answer_table" s_answer_table ["question", "rows"] := tfun_mk (w := w) X G a14 l14 c14 k14 fun _ _ _ _ _ _ us hl => match us, hl with | [_, _], _ => rfl
  have t15 : TFun K mg "_law_lines" s_law_lines ["told", "due"] := tfun_mk (w := w) X G a15 l15 c15 k15 fun _ _ _ _ _ _ us hl => match us, hl with | [_, _], _ => rfl
  have t16 : TFun K mg "_law_door_lines" s_law_door_lines ["house"] := tfun_mk (w := w) X G a16 l16 c16 k16 fun _ _ _ _ _ _ us hl => match us, hl with | [_], _ => rfl
  have t17 : TFun K mg "door_table" s_door_table ["house"] := tfun_mk (w := w) X G a17 l17 c17 k17 fun _ _ _ _ _ _ us hl => match us, hl with | [_], _ => rfl
  have t18 : TFun K mg "_law_lot_lines" s_law_lot_lines ["lots"] := tfun_mk (w := w) X G a18 l18 c18 k18 fun _ _ _ _ _ _ us hl => match us, hl with | [_], _ => rfl
  have t19 : TFun K mg "lot_lines" s_lot_lines ["lots"] := tfun_mk (w := w) X G a19 l19 c19 k19 fun _ _ _ _ _ _ us hl => match us, hl with | [_], _ => rfl
  have T : Txt mg := ⟨PySem.W.mg_none_of X G z0, PySem.W.mg_none_of X G z1, PySem.W.mg_none_of X G z2, PySem.W.mg_none_of X G z3, PySem.W.mg_none_of X G z4, PySem.W.mg_none_of X G z5, PySem.W.mg_none_of X G z6, PySem.W.mg_none_of X G z7, PySem.W.mg_none_of X G z8⟩
  refine ⟨PySem.W.fnOf "law" "law" (defArgs s_law) (defBody s_law) (defScope s_law) .none kV20 dc20 pm20 an20 cd20 ct20, fun s v => .of_eq rfl, fun base _ _ => ?_⟩
  exact ok_all (P := l.prog) (w := w) (base := base) T t0 t1 t2 t3 t4 t5 t6 t7 t8 t9 t10 t11 t12 t13 t14 t15 t16 t17 t18 t19 (fun_mk l20 c20 k20)
theorem repL_of_ints {K : Fg} {H : Hp} {r : List Addr} : ∀ ns : List Int, RepL K r H (ns.map V.int) (ns.map W.int)
  | [] => .nil
  | x :: ns => .cons (.int x) (repL_of_ints ns)
theorem hsp_mk {K : Fg} {H : Hp} {a : Addr} {ns : List Int} (hl : ns.length ≤ 63) (ho : Only H) (hs : SqL K H a (ns.map V.int)) : spOf K F_law [.ref a] H (fun v _ => v = .bl true) fun _ _ _ => False := by
  refine ⟨[], [], [.lit (ns.map W.int)], fun w _ => w = .bl true, ⟨rfl, List.nodup_nil, fun i a o h => by simp at h⟩, .cons (.lit ⟨hs, ?_⟩ ?_) .nil, ⟨ns, rfl, rfl, hl, fun _ => rfl⟩, fun _ _ _ v w _ _ r e => ?_⟩
  · rcases hs with h | ⟨o, its, n, h1, h2, h3, h4, h5, h6⟩
    · rcases h with h | ⟨o, h⟩
      · rcases ho a with h2 | ⟨o, xs, h2⟩
        · rw [h2] at h; cases h
        · rw [h2] at h; cases h
      · exact .inl ⟨o, h⟩
    · exact .inr fun H' => .inr ⟨o, its, n, h1, h2, h3, h4, h5, h6⟩
  · exact repL_of_ints ns
  · subst e
    cases r
    rfl
end K92
open PySem PySem.W PyProof.Rows
set_option maxHeartbeats 0 in
theorem PySem.Challenge.cw_throughdoors_k92_tables_in_lines_holds : PySem.Challenge.rw_throughdoors_k92_tables_in_lines.Holds := by
  w_on; o_law; k_head; (case hw => w_witness2)
  k_fill
  refine L2.walk_of (l := PySem.Challenge.rw_throughdoors_k92_tables_in_lines) (n := 63) (k := 4) (x := "script") (CX := fun _ => L2.CX0) (sp := fun w => DL.spOf _ K92.F_law) rfl (by decide) rfl ⟨rfl, by decide, by decide⟩ (fun w h Y => PySem.W.kIn_of Y) ?F (fun _ _ _ _ hl ho hs => K92.hsp_mk hl ho hs) (fun _ _ _ _ _ h => h)
  case F =>
    intro w mg fa h KX G hmg
    refine' K92.all_mk KX G hmg ?a0 ?l0 ?c0 ?k0 ?a1 ?l1 ?c1 ?k1 ?a2 ?l2 ?c2 ?k2 ?a3 ?l3 ?c3 ?k3 ?a4 ?l4 ?c4 ?k4 ?a5 ?l5 ?c5 ?k5 ?a6 ?l6 ?c6 ?k6 ?a7 ?l7 ?c7 ?k7 ?a8 ?l8 ?c8 ?k8 ?a9 ?l9 ?c9 ?k9 ?a10 ?l10 ?c10 ?k10 ?a11 ?l11 ?c11 ?k11 ?a12 ?l12 ?c12 ?k12 ?a13 ?l13 ?c13 ?k13 ?a14 ?l14 ?c14 ?k14 ?a15 ?l15 ?c15 ?k15 ?a16 ?l16 ?c16 ?k16 ?a17 ?l17 ?c17 ?k17 ?a18 ?l18 ?c18 ?k18 ?a19 ?l19 ?c19 ?k19 ?a20 ?l20 ?c20 ?k20 ?z0 ?z1 ?z2 ?z3 ?z4 ?z5 ?z6 ?z7 ?z8
    (case a0 => k_is)
    (case l0 => k_is)
    (case c0 => k_is)
    (case k0 => k_is)
    (case a1 => k_is)
    (case l1 => k_is)
    (case c1 => k_is)
    (case k1 => k_is)
    (case a2 => k_is)
    (case l2 => k_is)
    (case c2 => k_is)
    (case k2 => k_is)
    (case a3 => k_is)
    (case l3 => k_is)
    (case c3 => k_is)
    (case k3 => k_is)
    (case a4 => k_is)
    (case l4 => k_is)
    (case c4 => k_is)
    (case k4 => k_is)
    (case a5 => k_is)
    (case l5 => k_is)
    (case c5 => k_is)
    (case k5 => k_is)
    (case a6 => k_is)
    (case l6 => k_is)
    (case c6 => k_is)
    (case k6 => k_is)
    (case a7 => k_is)
    (case l7 => k_is)
    (case c7 => k_is)
    (case k7 => k_is)
    (case a8 => k_is)
    (case l8 => k_is)
    (case c8 => k_is)
    (case k8 => k_is)
    (case a9 => k_is)
    (case l9 => k_is)
    (case c9 => k_is)
    (case k9 => k_is)
    (case a10 => k_is)
    (case l10 => k_is)
    (case c10 => k_is)
    (case k10 => k_is)
    (case a11 => k_is)
    (case l11 => k_is)
    (case c11 => k_is)
    (case k11 => k_is)
    (case a12 => k_is)
    (case l12 => k_is)
    (case c12 => k_is)
    (case k12 => k_is)
    (case a13 => k_is)
    (case l13 => k_is)
    (case c13 => k_is)
    (case k13 => k_is)
    (case a14 => k_is)
    (case l14 => k_is)
    (case c14 => k_is)
    (case k14 => k_is)
    (case a15 => k_is)
    (case l15 => k_is)
    (case c15 => k_is)
    (case k15 => k_is)
    (case a16 => k_is)
    (case l16 => k_is)
    (case c16 => k_is)
    (case k16 => k_is)
    (case a17 => k_is)
    (case l17 => k_is)
    (case c17 => k_is)
    (case k17 => k_is)
    (case a18 => k_is)
    (case l18 => k_is)
    (case c18 => k_is)
    (case k18 => k_is)
    (case a19 => k_is)
    (case l19 => k_is)
    (case c19 => k_is)
    (case k19 => k_is)
    (case a20 => k_is)
    (case l20 => k_is)
    (case c20 => k_is)
    (case k20 => k_is)
    (case z0 => k_is)
    (case z1 => k_is)
    (case z2 => k_is)
    (case z3 => k_is)
    (case z4 => k_is)
    (case z5 => k_is)
    (case z6 => k_is)
    (case z7 => k_is)
    (case z8 => k_is)
