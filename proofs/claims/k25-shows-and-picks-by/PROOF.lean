import PyProof.Rows.All
import Wide.All
import OpenK.AllK
import Wide.FinOn
import HandS.ForMost
import HandS.IsInst
import HandS.RaiseMore
import HandS.Wide
import KE.KeyNested
import HandS.TupAny
import KE.SortData
import OpenK.KMore
import HandS.Conv
import HandS.Small
import HandS.Zip
import KE.GoesEnum
import HandS.Text
import HandS.More
import HandS.Deep
import HandS.Flow
import HandS.TupSets
import HandS.ListItems
import HandS.Style
import HandS.DictComp
import HandS.SetBool
import HandS.WideBits
import HandS.Iter
import KE.SortKeyHeap
import KE.KDictPairs
import HandS.Dict
import PyProof.DictMoreH
import KE.KDictWalk
import PySem.Challenge.RW_throughdoors_k25_shows_and_picks_by
set_option Elab.async false
set_option linter.all false
set_option maxRecDepth 100000
set_option maxHeartbeats 4000000
/-! DLa: values as trees (tuples by value), a store of mutable objects by number, what stands for what. -/
namespace DL
open PySem PySem.Spec PyProof.Rows L2

/-- a value: tuples by value; lists that are only read, by value (lit); mutable objects by their number in the store -/
inductive W where
  | non | bl (b : Bool) | int (i : Int) | str (x : Str) | tup (ws : List W) | lit (ws : List W) | ref (i : Nat) | raw (v : V)

mutual
def W.hk : W → Bool
  | .tup ws => W.hkL ws
  | .lit _ => false
  | .ref _ => false
  | .raw _ => false
  | _ => true
def W.hkL : List W → Bool
  | [] => true
  | w :: ws => w.hk && W.hkL ws
end
mutual
def nkW : W → NestedKey
  | .bl b => .num (if b = true then 1 else 0)
  | .int i => .num i
  | .str x => .text x
  | .tup ws => .tup (nkWs ws)
  | _ => .none
def nkWs : List W → List NestedKey
  | [] => []
  | w :: ws => nkW w :: nkWs ws
end
/-- an object of the store -/
inductive O where
  | lst (ws : List W)
  | dk (kvs : List (Key × W))
  /-- a tuple that a dict may keep as a key; a dict of such keys -/
  | tk (ws : List W)
  | dt (kvs : List (List Key × W))
  /-- a tuple that is known to its last field -/
  | ft (ws : List W)
  /-- a dict of keys of any depth -/
  | nd (P : Program) (w : World) (z : Option Obj) (kvs : List (W × W))

abbrev Sto := List O
abbrev Slots := List (Option W)
abbrev Fg := PySem.W.Frag

/-- a list that nobody writes: of the module, or locked -/
def LitAt (K : Fg) (H : Hp) (a : Addr) (xs : List V) : Prop := SqL K H a xs ∧ ((∃ o, H a = some (.frz o (.lst xs))) ∨ ∀ H', SqL K H' a xs)

mutual
inductive Rep (K : Fg) (r : List Addr) (H : Hp) : V → W → Prop
  | non : Rep K r H .non .non
  | bl (b : Bool) : Rep K r H (.bl b) (.bl b)
  | int (i : Int) : Rep K r H (.int i) (.int i)
  | str (x : Str) : Rep K r H (.str x) (.str x)
  | tup {a : Addr} {xs : List V} {ws : List W} : SqT K H a xs → RepL K r H xs ws → Rep K r H (.ref a) (.tup ws)
  | lit {a : Addr} {xs : List V} {ws : List W} : LitAt K H a xs → RepL K r H xs ws → Rep K r H (.ref a) (.lit ws)
  | ref {a : Addr} {i : Nat} : r[i]? = some a → Rep K r H (.ref a) (.ref i)
  | raw (v : V) : Rep K r H v (.raw v)
inductive RepL (K : Fg) (r : List Addr) (H : Hp) : List V → List W → Prop
  | nil : RepL K r H [] []
  | cons {v : V} {vs : List V} {w : W} {ws : List W} : Rep K r H v w → RepL K r H vs ws → RepL K r H (v :: vs) (w :: ws)
end

def RelKV (K : Fg) (r : List Addr) (H : Hp) (vs : List (Key × V)) (ws : List (Key × W)) : Prop := vs.map (·.1) = ws.map (·.1) ∧ RepL K r H (vs.map (·.2)) (ws.map (·.2))
/-- the entries of a dict of keys of any depth -/
structure RelX (e : NestedKey × Addr × V) (x : NestedKey × Addr × Value) : Prop where
  k : e.1 = x.1
  a : e.2.1 = x.2.1
  v : RelV e.2.2 x.2.2
def ndF (P : Program) (w : World) (a : Addr) (es : List (NestedKey × Addr × V)) (h : Heap) : Prop :=
  ∃ xs, Paired RelX es xs ∧ ∃ o ents ep, h.get? a = some o ∧ o.ExactDict ∧ o.data = .dict ents ep ∧ ents.toList = xs.map (entryOfKey (nestedKind P w))
abbrev ndO (P : Program) (w : World) (a : Addr) (es : List (NestedKey × Addr × V)) : HO := .ext (ndF P w a es)
/-- locked (its object is known) or not -/
abbrev ndH : Option Obj → HO → HO
  | none, u => u
  | some o, u => .frz o u
def HkW (w : W) : Prop := w.hk = true ∧ (nkW w).depth ≤ 8 ∧ ∃ ws, w = .tup ws
def RelO (K : Fg) (r : List Addr) (H : Hp) (a : Addr) : O → Prop
  | .lst ws => ∃ xs, H a = some (.lst xs) ∧ RepL K r H xs ws
  | .dk ws => ∃ vs, H a = some (.dK vs) ∧ RelKV K r H vs ws
  | .tk ws => ∃ xs, H a = some (.tup xs) ∧ RepL K r H xs ws
  | .dt ws => ∃ vs : List (List Key × V), H a = some (.dT vs) ∧ vs.map (·.1) = ws.map (·.1) ∧ RepL K r H (vs.map (·.2)) (ws.map (·.2))
  | .nd P w z kvs => ∃ es : List (NestedKey × Addr × V), H a = some (ndH z (ndO P w a es)) ∧ (a == sysModules) = false ∧ es.length ≤ sizeLine ∧ es.map (·.1) = kvs.map (fun kv => nkW kv.1) ∧ (es.map (·.1)).Nodup ∧ (∀ kv ∈ kvs, HkW kv.1) ∧
      RepL K [] H (es.map fun e => .ref e.2.1) (kvs.map (·.1)) ∧ RepL K r H (es.map (·.2.2)) (kvs.map (·.2))
  | .ft ws => ∃ (o : Obj) (xs : List V), H a = some (.frz o (.tup xs)) ∧ o.dict = none ∧ RepL K r H xs ws

structure RelS (K : Fg) (r : List Addr) (H : Hp) (S : Sto) : Prop where
  len : r.length = S.length
  nd : r.Nodup
  obj : ∀ (i : Nat) (a : Addr) (o : O), r[i]? = some a → S[i]? = some o → RelO K r H a o

/-- what readings lean on -/
structure Kp (K : Fg) (r : List Addr) (H : Hp) (r' : List Addr) (H' : Hp) : Prop where
  pre : ∀ (i : Nat) (a : Addr), r[i]? = some a → r'[i]? = some a
  tup : ∀ (b : Addr) (xs : List V), SqT K H b xs → SqT K H' b xs
  frz : ∀ (b : Addr) (o : Obj) (u : HO), H b = some (.frz o u) → H' b = some (.frz o u)
structure Ext (K : Fg) (r : List Addr) (H : Hp) (r' : List Addr) (H' : Hp) : Prop extends Kp K r H r' H' where
  oth : ∀ (b : Addr) (o : HO), H b = some o → b ∉ r → H' b = some o
  new : ∀ b ∈ r', b ∉ r → H b = none

theorem Ext.refl {K : Fg} {r : List Addr} {H : Hp} : Ext K r H r H :=
  ⟨⟨fun _ _ h => h, fun _ _ h => h, fun _ _ _ h => h⟩, fun _ _ h _ => h, fun _ h h' => (h' h).elim⟩
theorem Ext.trans {K : Fg} {r r1 r2 : List Addr} {H H1 H2 : Hp} (a : Ext K r H r1 H1) (b : Ext K r1 H1 r2 H2) : Ext K r H r2 H2 := by
  refine ⟨⟨fun i x h => b.pre i x (a.pre i x h), fun c xs h => b.tup c xs (a.tup c xs h), fun c o u h => b.frz c o u (a.frz c o u h)⟩, fun c o h n => ?_, fun c hc n => ?_⟩
  · refine b.oth c o (a.oth c o h n) fun m => ?_
    rw [a.new c m n] at h
    cases h
  · by_cases m : c ∈ r1
    · exact a.new c m n
    · have e := b.new c hc m
      cases q : H c with
      | none => rfl
      | some o =>
        rw [a.oth c o q n] at e
        cases e

theorem LitAt.mono {K : Fg} {r r' : List Addr} {H H' : Hp} {a : Addr} {xs : List V} (e : Kp K r H r' H') (h : LitAt K H a xs) : LitAt K H' a xs := by
  obtain ⟨h1, h2⟩ := h
  rcases h2 with ⟨o, q⟩ | q
  · exact ⟨.inl (.inr ⟨o, e.frz _ _ _ q⟩), .inl ⟨o, e.frz _ _ _ q⟩⟩
  · exact ⟨q H', .inr q⟩

section
variable {K : Fg} {r r' : List Addr} {H H' : Hp}
mutual
theorem Rep.mono' (e : Kp K r H r' H') : ∀ {v : V} {w : W}, Rep K r H v w → Rep K r' H' v w
  | _, _, .non => .non
  | _, _, .bl b => .bl b
  | _, _, .int i => .int i
  | _, _, .str x => .str x
  | _, _, .tup h l => .tup (e.tup _ _ h) (RepL.mono' e l)
  | _, _, .lit h l => .lit (h.mono e) (RepL.mono' e l)
  | _, _, .ref h => .ref (e.pre _ _ h)
  | _, _, .raw v => .raw v
theorem RepL.mono' (e : Kp K r H r' H') : ∀ {vs : List V} {ws : List W}, RepL K r H vs ws → RepL K r' H' vs ws
  | _, _, .nil => .nil
  | _, _, .cons h l => .cons (Rep.mono' e h) (RepL.mono' e l)
end
theorem Rep.mono (e : Ext K r H r' H') {v : V} {w : W} (h : Rep K r H v w) : Rep K r' H' v w := h.mono' e.toKp
theorem RepL.mono (e : Ext K r H r' H') {vs : List V} {ws : List W} (h : RepL K r H vs ws) : RepL K r' H' vs ws := h.mono' e.toKp
end

section
variable {K : Fg} {r : List Addr} {H : Hp} {S : Sto}
theorem RepL.length : ∀ {vs : List V} {ws : List W}, RepL K r H vs ws → vs.length = ws.length
  | _, _, .nil => rfl
  | _, _, .cons _ l => congrArg (· + 1) (RepL.length l)
theorem RepL.get : ∀ {vs : List V} {ws : List W} {i : Nat} {w : W}, RepL K r H vs ws → ws[i]? = some w → ∃ v, vs[i]? = some v ∧ Rep K r H v w
  | _, _, _, _, .nil, h => by simp at h
  | _, _, 0, _, .cons q _, h => by
    have e := Option.some.inj h
    subst e
    exact ⟨_, rfl, q⟩
  | _, _, i + 1, w, .cons _ l, h => RepL.get (i := i) l h
theorem RepL.getV : ∀ {vs : List V} {ws : List W} {i : Nat} {v : V}, RepL K r H vs ws → vs[i]? = some v → ∃ w, ws[i]? = some w ∧ Rep K r H v w
  | _, _, _, _, .nil, h => by simp at h
  | _, _, 0, _, .cons q _, h => by
    have e := Option.some.inj h
    subst e
    exact ⟨_, rfl, q⟩
  | _, _, i + 1, w, .cons _ l, h => RepL.getV (i := i) l h
theorem RepL.app : ∀ {vs us : List V} {ws xs : List W}, RepL K r H vs ws → RepL K r H us xs → RepL K r H (vs ++ us) (ws ++ xs)
  | _, _, _, _, .nil, h => h
  | _, _, _, _, .cons q l, h => .cons q (RepL.app l h)
theorem RepL.one {v : V} {w : W} (h : Rep K r H v w) : RepL K r H [v] [w] := .cons h .nil
theorem RepL.take : ∀ {vs : List V} {ws : List W} (n : Nat), RepL K r H vs ws → RepL K r H (vs.take n) (ws.take n)
  | _, _, 0, _ => .nil
  | _, _, _ + 1, .nil => .nil
  | _, _, n + 1, .cons q l => .cons q (RepL.take n l)
theorem RepL.drop : ∀ {vs : List V} {ws : List W} (n : Nat), RepL K r H vs ws → RepL K r H (vs.drop n) (ws.drop n)
  | _, _, 0, h => h
  | _, _, _ + 1, .nil => .nil
  | _, _, n + 1, .cons _ l => RepL.drop n l
theorem RepL.set {v : V} {w : W} (h : Rep K r H v w) : ∀ {vs : List V} {ws : List W} (i : Nat), RepL K r H vs ws → RepL K r H (vs.set i v) (ws.set i w)
  | _, _, _, .nil => .nil
  | _, _, 0, .cons _ l => .cons h l
  | _, _, i + 1, .cons q l => .cons q (RepL.set h i l)
theorem RepL.dropLast : ∀ {vs : List V} {ws : List W}, RepL K r H vs ws → RepL K r H vs.dropLast ws.dropLast
  | _, _, .nil => .nil
  | _, _, .cons q .nil => .nil
  | _, _, .cons q (.cons q' l) => .cons q (RepL.dropLast (.cons q' l))
theorem RepL.eraseIdx : ∀ {vs : List V} {ws : List W} (i : Nat), RepL K r H vs ws → RepL K r H (vs.eraseIdx i) (ws.eraseIdx i)
  | _, _, _, .nil => .nil
  | _, _, 0, .cons _ l => l
  | _, _, i + 1, .cons q l => .cons q (RepL.eraseIdx i l)
theorem RepL.rev : ∀ {vs : List V} {ws : List W}, RepL K r H vs ws → RepL K r H vs.reverse ws.reverse
  | _, _, .nil => .nil
  | _, _, .cons q l => by
    rw [List.reverse_cons, List.reverse_cons]
    exact RepL.app (RepL.rev l) (.one q)

theorem RelS.lt (R : RelS K r H S) {i : Nat} {a : Addr} (h : r[i]? = some a) : i < S.length := by
  rw [← R.len]
  exact (List.getElem?_eq_some_iff.mp h).1
theorem RelS.at (R : RelS K r H S) {i : Nat} {o : O} (h : S[i]? = some o) : ∃ a, r[i]? = some a ∧ RelO K r H a o := by
  have l : i < r.length := by
    rw [R.len]
    exact (List.getElem?_eq_some_iff.mp h).1
  exact ⟨r[i], List.getElem?_eq_getElem l, R.obj i _ o (List.getElem?_eq_getElem l) h⟩
theorem RelS.ix (R : RelS K r H S) {i j : Nat} {a : Addr} (h : r[i]? = some a) (h' : r[j]? = some a) : i = j := by
  obtain ⟨h1, e1⟩ := List.getElem?_eq_some_iff.mp h
  obtain ⟨h2, e2⟩ := List.getElem?_eq_some_iff.mp h'
  exact (List.getElem_inj R.nd).mp (e1.trans e2.symm)

theorem sqT_upd {p : Addr} {o : HO} (h : H p = none) : ∀ b xs, SqT K H b xs → SqT K (upd H p o) b xs := fun b xs q => by
  rcases q with (q | ⟨u, q⟩) | q
  · exact .inl (.inl (by rw [upd_ne (ne_of_none q h)]; exact q))
  · exact .inl (.inr ⟨u, by rw [upd_ne (ne_of_none q h)]; exact q⟩)
  · exact .inr q
/-- what may be written: no tuple, nothing locked -/
def Soft : HO → Prop
  | .lst _ => True
  | .dK _ => True
  | .dT _ => True
  | .ext _ => True
  | _ => False
theorem sqT_wr {p : Addr} {o u : HO} (h : H p = some u) (m : Soft u) : ∀ b xs, SqT K H b xs → SqT K (upd H p o) b xs := fun b xs q => by
  rcases q with (q | ⟨v, q⟩) | q
  · exact .inl (.inl (by rw [upd_ne (ne_of q h (by intro z; rw [← z] at m; exact m))]; exact q))
  · exact .inl (.inr ⟨v, by rw [upd_ne (ne_of q h (by intro z; rw [← z] at m; exact m))]; exact q⟩)
  · exact .inr q
theorem RelO.soft {a : Addr} {o : O} (x : RelO K r H a o) : ∃ u, H a = some u ∧ True := by
  cases o with
  | lst ws =>
    obtain ⟨xs, h1, h2⟩ := x
    exact ⟨_, h1, trivial⟩
  | dk ws =>
    obtain ⟨xs, h1, h2⟩ := x
    exact ⟨_, h1, trivial⟩
  | tk ws =>
    obtain ⟨xs, h1, h2⟩ := x
    exact ⟨_, h1, trivial⟩
  | dt ws =>
    obtain ⟨xs, h1, h2⟩ := x
    exact ⟨_, h1, trivial⟩
  | ft ws =>
    obtain ⟨ob, xs, h1, h2⟩ := x
    exact ⟨_, h1, trivial⟩
  | nd P w z kvs =>
    obtain ⟨es, h1, h2⟩ := x
    exact ⟨_, h1, trivial⟩
theorem relO_mono' {r' : List Addr} {H' : Hp} {a : Addr} {o : O} (e : Kp K r H r' H') (hl : H' a = H a) (x : RelO K r H a o) : RelO K r' H' a o := by
  cases o with
  | lst ws =>
    obtain ⟨xs, h1, h2⟩ := x
    exact ⟨xs, by rw [hl]; exact h1, h2.mono' e⟩
  | dk ws =>
    obtain ⟨xs, h1, h2, h3⟩ := x
    exact ⟨xs, by rw [hl]; exact h1, h2, h3.mono' e⟩
  | tk ws =>
    obtain ⟨xs, h1, h2⟩ := x
    exact ⟨xs, by rw [hl]; exact h1, h2.mono' e⟩
  | dt ws =>
    obtain ⟨xs, h1, h2, h3⟩ := x
    exact ⟨xs, by rw [hl]; exact h1, h2, h3.mono' e⟩
  | ft ws =>
    obtain ⟨ob, xs, h1, h2, h3⟩ := x
    exact ⟨ob, xs, by rw [hl]; exact h1, h2, h3.mono' e⟩
  | nd P w z kvs =>
    obtain ⟨es, h1, h2, h3, h4, h5, h6, h7, h8⟩ := x
    exact ⟨es, by rw [hl]; exact h1, h2, h3, h4, h5, h6, h7.mono' ⟨fun _ _ h => (by cases h), e.tup, e.frz⟩, h8.mono' e⟩
theorem relO_mono {r' : List Addr} {H' : Hp} {a : Addr} {o : O} (e : Ext K r H r' H') (hl : H' a = H a) (x : RelO K r H a o) : RelO K r' H' a o := relO_mono' e.toKp hl x
theorem RelS.there (R : RelS K r H S) {i : Nat} {a : Addr} (ha : r[i]? = some a) : ∃ u, H a = some u ∧ True := by
  have l := R.lt ha
  exact (R.obj i a _ ha (List.getElem?_eq_getElem l)).soft
theorem RelS.notin (R : RelS K r H S) {p : Addr} (h : H p = none) : p ∉ r := fun m => by
  obtain ⟨i, l, e⟩ := List.mem_iff_getElem.mp m
  obtain ⟨u, q, _⟩ := R.there (i := i) (a := p) (by rw [List.getElem?_eq_getElem l, e])
  rw [h] at q
  cases q
/-- a new object that is no member of the store (a tuple, ..) -/
theorem ext_new {p : Addr} {o : HO} (h : H p = none) : Ext K r H r (upd H p o) :=
  ⟨⟨fun _ _ q => q, sqT_upd h, fun b o u q => by rw [upd_ne (ne_of_none q h)]; exact q⟩, fun b u q _ => by rw [upd_ne (ne_of_none q h)]; exact q, fun _ q n => (n q).elim⟩
theorem rel_new (R : RelS K r H S) {p : Addr} {o : HO} (h : H p = none) : RelS K r (upd H p o) S :=
  ⟨R.len, R.nd, fun i a ob ha hs => by
    obtain ⟨u, q, _⟩ := R.there ha
    exact relO_mono (ext_new h) (upd_ne (ne_of_none q h)) (R.obj i a ob ha hs)⟩
theorem rep_tup {p : Addr} {xs : List V} {ws : List W} (h : H p = none) (l : RepL K r H xs ws) : Rep K r (upd H p (.tup xs)) (.ref p) (.tup ws) :=
  .tup (.of upd_same) (l.mono (ext_new h))
/-- a new object, a member of the store -/
theorem ext_mem {p : Addr} {u : HO} (h : H p = none) : Ext K r H (r ++ [p]) (upd H p u) := by
  refine ⟨⟨fun i a q => ?_, sqT_upd h, fun b o u q => by rw [upd_ne (ne_of_none q h)]; exact q⟩, fun b u q _ => by rw [upd_ne (ne_of_none q h)]; exact q, fun b q n => ?_⟩
  · rw [List.getElem?_append_left (List.getElem?_eq_some_iff.mp q).1]
    exact q
  · rcases List.mem_append.mp q with m | m
    · exact (n m).elim
    · rw [List.mem_singleton.mp m]
      exact h
theorem rel_mem (R : RelS K r H S) {p : Addr} {u : HO} {o : O} (h : H p = none) (x : RelO K (r ++ [p]) (upd H p u) p o) : RelS K (r ++ [p]) (upd H p u) (S ++ [o]) := by
  refine ⟨by rw [List.length_append, List.length_append, R.len]; rfl, ?_, fun i a ob ha hs => ?_⟩
  · rw [List.nodup_append]
    refine ⟨R.nd, List.nodup_cons.mpr ⟨List.not_mem_nil, List.nodup_nil⟩, fun a ha b hb e => ?_⟩
    rw [List.mem_singleton.mp hb] at e
    exact R.notin h (e ▸ ha)
  · by_cases l : i < r.length
    · rw [List.getElem?_append_left l] at ha
      rw [List.getElem?_append_left (by rw [← R.len]; exact l)] at hs
      obtain ⟨v, q, _⟩ := R.there ha
      exact relO_mono (ext_mem h) (upd_ne (ne_of_none q h)) (R.obj i a ob ha hs)
    · rw [List.getElem?_append_right (Nat.le_of_not_lt l)] at ha
      rw [List.getElem?_append_right (by rw [← R.len]; exact Nat.le_of_not_lt l), ← R.len] at hs
      cases e : i - r.length with
      | zero =>
        rw [e] at ha hs
        have e1 : p = a := Option.some.inj ha
        have e2 : o = ob := Option.some.inj hs
        rw [← e1, ← e2]
        exact x
      | succ n =>
        rw [e] at ha
        simp at ha
theorem rep_mem (R : RelS K r H S) {p : Addr} {H' : Hp} : Rep K (r ++ [p]) H' (.ref p) (.ref S.length) := .ref (by rw [← R.len, List.getElem?_concat_length])
theorem new_lst (R : RelS K r H S) {p : Addr} {xs : List V} {ws : List W} (h : H p = none) (l : RepL K r H xs ws) : RelS K (r ++ [p]) (upd H p (.lst xs)) (S ++ [.lst ws]) :=
  rel_mem R h ⟨xs, upd_same, l.mono (ext_mem h)⟩
/-- a member of the store is written -/
theorem ext_wr {i : Nat} {p : Addr} {u u' : HO} (hp : r[i]? = some p) (h : H p = some u) (m : Soft u) : Ext K r H r (upd H p u') :=
  ⟨⟨fun _ _ q => q, sqT_wr h m, fun b o v q => by rw [upd_ne (ne_of q h (by intro z; rw [← z] at m; exact m))]; exact q⟩, fun b o q n => by rw [upd_ne (fun e => n (by rw [e]; exact List.mem_of_getElem? hp))]; exact q, fun _ q n => (n q).elim⟩
theorem rel_wr (R : RelS K r H S) {i : Nat} {p : Addr} {u u' : HO} {o : O} (hp : r[i]? = some p) (h : H p = some u) (m : Soft u) (x : RelO K r (upd H p u') p o) : RelS K r (upd H p u') (S.set i o) := by
  refine ⟨by rw [List.length_set]; exact R.len, R.nd, fun j a ob ha hs => ?_⟩
  by_cases e : j = i
  · subst e
    rw [hp] at ha
    have e1 := Option.some.inj ha
    subst e1
    rw [List.getElem?_set_self (R.lt hp)] at hs
    have e2 := Option.some.inj hs
    subst e2
    exact x
  · rw [List.getElem?_set_ne (Ne.symm e)] at hs
    have ne : a ≠ p := fun z => e (R.ix ha (z ▸ hp))
    exact relO_mono (ext_wr hp h m) (upd_ne ne) (R.obj j a ob ha hs)
theorem wr_lst (R : RelS K r H S) {i : Nat} {p : Addr} {xs xs' : List V} {ws' : List W} (hp : r[i]? = some p) (h : H p = some (.lst xs)) (l : RepL K r H xs' ws') : RelS K r (upd H p (.lst xs')) (S.set i (.lst ws')) :=
  rel_wr R hp h trivial ⟨xs', upd_same, l.mono (ext_wr hp h trivial)⟩

/-- an object apart from the store -/
theorem Ext.apart {r' : List Addr} {H' : Hp} {D : Addr} {o : HO} (e : Ext K r H r' H') (n : D ∉ r) (h : H D = some o) : D ∉ r' ∧ H' D = some o :=
  ⟨fun m => (ne_of_none h (e.new D m n)) rfl, e.oth D o h n⟩
theorem Kp.hid {D : Addr} {o u : HO} (h : H D = some u) (m : Soft u) : Kp K r H r (upd H D o) :=
  ⟨fun _ _ q => q, sqT_wr h m, fun b ob v q => by rw [upd_ne (ne_of q h (by intro z; rw [← z] at m; exact m))]; exact q⟩
theorem Ext.hid {r' : List Addr} {H' : Hp} {D : Addr} {o u : HO} (e : Ext K r H r' H') (h0 : H D = none) (h : H' D = some u) (m : Soft u) : Ext K r H r' (upd H' D o) :=
  ⟨⟨e.pre, fun b xs q => sqT_wr h m b xs (e.tup b xs q), fun b ob v q => (Kp.hid (K := K) (r := r) h m).frz b ob v (e.frz b ob v q)⟩, fun b ob q n => by rw [upd_ne (ne_of_none q h0)]; exact e.oth b ob q n, e.new⟩
theorem RelS.hid (R : RelS K r H S) {D : Addr} {o u : HO} (n : D ∉ r) (h : H D = some u) (m : Soft u) : RelS K r (upd H D o) S :=
  ⟨R.len, R.nd, fun i a ob ha hs => relO_mono' (Kp.hid h m) (upd_ne fun e => n (by rw [← e]; exact List.mem_of_getElem? ha)) (R.obj i a ob ha hs)⟩
theorem Ext.join {r' : List Addr} {H' : Hp} {D : Addr} (e : Ext K r H r' H') (h0 : H D = none) : Ext K r H (r' ++ [D]) H' :=
  ⟨⟨fun i a q => by
    have q' := e.pre i a q
    rw [List.getElem?_append_left (List.getElem?_eq_some_iff.mp q').1]
    exact q', e.tup, e.frz⟩, e.oth, fun b q n => by
    rcases List.mem_append.mp q with m | m
    · exact e.new b m n
    · rw [List.mem_singleton.mp m]
      exact h0⟩
theorem Kp.join {D : Addr} : Kp K r H (r ++ [D]) H :=
  ⟨fun i a q => by
    rw [List.getElem?_append_left (List.getElem?_eq_some_iff.mp q).1]
    exact q, fun _ _ q => q, fun _ _ _ q => q⟩
theorem RelS.join (R : RelS K r H S) {D : Addr} {xs : List V} {ws : List W} (n : D ∉ r) (h : H D = some (.lst xs)) (l : RepL K r H xs ws) : RelS K (r ++ [D]) H (S ++ [.lst ws]) := by
  refine ⟨by rw [List.length_append, List.length_append, R.len]; rfl, ?_, fun i a ob ha hs => ?_⟩
  · rw [List.nodup_append]
    refine ⟨R.nd, List.nodup_cons.mpr ⟨List.not_mem_nil, List.nodup_nil⟩, fun a ha b hb e => ?_⟩
    rw [List.mem_singleton.mp hb] at e
    exact n (e ▸ ha)
  · by_cases l' : i < r.length
    · rw [List.getElem?_append_left l'] at ha
      rw [List.getElem?_append_left (by rw [← R.len]; exact l')] at hs
      exact relO_mono' Kp.join rfl (R.obj i a ob ha hs)
    · rw [List.getElem?_append_right (Nat.le_of_not_lt l')] at ha
      rw [List.getElem?_append_right (by rw [← R.len]; exact Nat.le_of_not_lt l'), ← R.len] at hs
      cases e : i - r.length with
      | zero =>
        rw [e] at ha hs
        have e1 : D = a := Option.some.inj ha
        have e2 : O.lst ws = ob := Option.some.inj hs
        rw [← e1, ← e2]
        exact ⟨xs, h, l.mono' Kp.join⟩
      | succ n =>
        rw [e] at ha
        simp at ha

/-- the slots -/
def RepE (K : Fg) (r : List Addr) (H : Hp) (s : L2.St) (env : Slots) : Prop := s.length = env.length ∧ ∀ (i : Nat) (w : W), env[i]? = some (some w) → ∃ v, s[i]? = some (some v) ∧ Rep K r H v w
theorem RepE.mono {r' : List Addr} {H' : Hp} {s : L2.St} {env : Slots} (e : Ext K r H r' H') (h : RepE K r H s env) : RepE K r' H' s env :=
  ⟨h.1, fun i w q => by
    obtain ⟨v, a, b⟩ := h.2 i w q
    exact ⟨v, a, b.mono e⟩⟩
theorem RepE.set {s : L2.St} {env : Slots} {v : V} {w : W} (h : RepE K r H s env) (q : Rep K r H v w) (i : Nat) : RepE K r H (s.set i (some v)) (env.set i (some w)) := by
  refine ⟨by rw [List.length_set, List.length_set]; exact h.1, fun j x e => ?_⟩
  by_cases hj : j = i
  · subst hj
    have l : j < env.length := by
      have := (List.getElem?_eq_some_iff.mp e).1
      rw [List.length_set] at this
      exact this
    rw [List.getElem?_set_self l] at e
    have e1 := Option.some.inj (Option.some.inj e)
    subst e1
    exact ⟨v, List.getElem?_set_self (by rw [h.1]; exact l), q⟩
  · rw [List.getElem?_set_ne (Ne.symm hj)] at e
    obtain ⟨u, a, b⟩ := h.2 j x e
    exact ⟨u, by rw [List.getElem?_set_ne (Ne.symm hj)]; exact a, b⟩
def wipeW (env : Slots) : List Nat → Slots
  | [] => env
  | v :: vs => (wipeW env vs).set v none
theorem RepE.nil {s : L2.St} {env : Slots} (h : RepE K r H s env) (i : Nat) : RepE K r H (s.set i none) (env.set i none) := by
  refine ⟨by rw [List.length_set, List.length_set]; exact h.1, fun j x e => ?_⟩
  by_cases hj : j = i
  · subst hj
    have l : j < env.length := by
      have := (List.getElem?_eq_some_iff.mp e).1
      rw [List.length_set] at this
      exact this
    rw [List.getElem?_set_self l] at e
    cases e
  · rw [List.getElem?_set_ne (Ne.symm hj)] at e
    obtain ⟨u, a, b⟩ := h.2 j x e
    exact ⟨u, by rw [List.getElem?_set_ne (Ne.symm hj)]; exact a, b⟩
theorem RepE.wipe {s : L2.St} {env : Slots} (h : RepE K r H s env) : ∀ vs : List Nat, RepE K r H (L2.wipe s vs) (wipeW env vs)
  | [] => h
  | v :: vs => RepE.nil (RepE.wipe h vs) v
theorem RepE.start {N : List Str} {vs : List V} {ws : List W} (l : RepL K r H vs ws) : RepE K r H (L2.start N vs) (ws.map some ++ List.replicate (N.length - ws.length) none) := by
  have hl := l.length
  refine ⟨by simp [L2.start, hl], fun i w e => ?_⟩
  by_cases hi : i < ws.length
  · rw [List.getElem?_append_left (by rw [List.length_map]; exact hi), List.getElem?_map, List.getElem?_eq_getElem hi] at e
    have e1 : ws[i] = w := Option.some.inj (Option.some.inj e)
    obtain ⟨v, a, b⟩ := l.get (List.getElem?_eq_getElem hi)
    rw [e1] at b
    refine ⟨v, ?_, b⟩
    show (vs.map some ++ List.replicate (N.length - vs.length) Option.none)[i]? = _
    rw [List.getElem?_append_left (by rw [List.length_map, hl]; exact hi), List.getElem?_map, a]
    rfl
  · rw [List.getElem?_append_right (by rw [List.length_map]; exact Nat.le_of_not_lt hi)] at e
    rw [List.getElem?_replicate] at e
    split at e
    · cases Option.some.inj e
    · cases e
end
end DL

/-! DLb: the judgements over trees and the store; expressions, tests, arguments. -/
namespace DL
open PySem PySem.Spec PyProof.Rows L2

abbrev WK := W → Sto → Prop
abbrev DE := Slots → Sto → WK → Prop
abbrev DT := Slots → Sto → (Bool → Sto → Prop) → Prop
abbrev DA := Slots → Sto → (List W → Sto → Prop) → Prop
abbrev DG := W → Slots → Sto → (Slots → Sto → Prop) → Prop
structure DEnds where
  nx : Slots → Sto → Prop
  rt : WK
  bk : Slots → Sto → Prop
  ct : Slots → Sto → Prop
abbrev DS := DEnds → Slots → Sto → Prop

def Sim (K : Fg) (t : TE) (d : DE) : Prop := ∀ (r : List Addr) (H : Hp) (S : Sto) (s : L2.St) (env : Slots) (Q : WK) (Q0 : VK), RelS K r H S → RepE K r H s env → d env S Q →
  (∀ r' H' S' v w, Ext K r H r' H' → RelS K r' H' S' → Rep K r' H' v w → Q w S' → Q0 v H') → t s H Q0
def SimT (K : Fg) (t : TT) (d : DT) : Prop := ∀ (r : List Addr) (H : Hp) (S : Sto) (s : L2.St) (env : Slots) (Q : Bool → Sto → Prop) (Q0 : Bool → Hp → Prop), RelS K r H S → RepE K r H s env → d env S Q →
  (∀ r' H' S' b, Ext K r H r' H' → RelS K r' H' S' → Q b S' → Q0 b H') → t s H Q0
def SimA (K : Fg) (t : TA) (d : DA) : Prop := ∀ (r : List Addr) (H : Hp) (S : Sto) (s : L2.St) (env : Slots) (Q : List W → Sto → Prop) (Q0 : List V → Hp → Prop), RelS K r H S → RepE K r H s env → d env S Q →
  (∀ r' H' S' vs ws, Ext K r H r' H' → RelS K r' H' S' → RepL K r' H' vs ws → Q ws S' → Q0 vs H') → t s H Q0
def SimG (K : Fg) (t : TG) (d : DG) : Prop := ∀ (r : List Addr) (H : Hp) (S : Sto) (s : L2.St) (env : Slots) (v : V) (w : W) (Q : Slots → Sto → Prop) (Q0 : L2.St → Hp → Prop), RelS K r H S → RepE K r H s env → Rep K r H v w → d w env S Q →
  (∀ r' H' S' s' env', Ext K r H r' H' → RelS K r' H' S' → RepE K r' H' s' env' → Q env' S' → Q0 s' H') → t v s H Q0
structure EndsR (K : Fg) (r : List Addr) (H : Hp) (D' : DEnds) (D : Ends) : Prop where
  nx : ∀ r' H' S' s' env', Ext K r H r' H' → RelS K r' H' S' → RepE K r' H' s' env' → D'.nx env' S' → D.nx s' H'
  rt : ∀ r' H' S' v w, Ext K r H r' H' → RelS K r' H' S' → Rep K r' H' v w → D'.rt w S' → D.rt v H'
  bk : ∀ r' H' S' s' env', Ext K r H r' H' → RelS K r' H' S' → RepE K r' H' s' env' → D'.bk env' S' → D.bk s' H'
  ct : ∀ r' H' S' s' env', Ext K r H r' H' → RelS K r' H' S' → RepE K r' H' s' env' → D'.ct env' S' → D.ct s' H'
theorem EndsR.mono {K : Fg} {r r' : List Addr} {H H' : Hp} {D' : DEnds} {D : Ends} (e : Ext K r H r' H') (h : EndsR K r H D' D) : EndsR K r' H' D' D :=
  ⟨fun _ _ _ _ _ a => h.nx _ _ _ _ _ (e.trans a), fun _ _ _ _ _ a => h.rt _ _ _ _ _ (e.trans a), fun _ _ _ _ _ a => h.bk _ _ _ _ _ (e.trans a), fun _ _ _ _ _ a => h.ct _ _ _ _ _ (e.trans a)⟩
def SimS (K : Fg) (t : TS) (d : DS) : Prop := ∀ (r : List Addr) (H : Hp) (S : Sto) (s : L2.St) (env : Slots) (D' : DEnds) (D : Ends), RelS K r H S → RepE K r H s env → d D' env S → EndsR K r H D' D → t D s H

structure XE (X : Cx) (e : Expr) (d : DE) : Prop where
  ex : ∃ t, PE X e t ∧ Sim X.K t d
structure XT (X : Cx) (e : Expr) (d : DT) : Prop where
  ex : ∃ t, PT X e t ∧ SimT X.K t d
structure XW (X : Cx) (e : Expr) (d : DT) : Prop where
  ex : ∃ t, PW X e t ∧ SimT X.K t d
structure XA (X : Cx) (es : List Expr) (d : DA) : Prop where
  ex : ∃ t, PA X es t ∧ SimA X.K t d
structure XG (X : Cx) (tg : Expr) (d : DG) : Prop where
  ex : ∃ t, PG X tg t ∧ SimG X.K t d
structure XS (X : Cx) (st : Stmt) (d : DS) : Prop where
  ex : ∃ t, PS X st t ∧ SimS X.K t d
structure XSs (X : Cx) (st : List Stmt) (d : DS) : Prop where
  ex : ∃ t, PSs X st t ∧ SimS X.K t d

section
variable {X : Cx} {pos : Pos}
/-! ### names, constants -/
def dVar (i : Nat) : DE := fun env S Q => ∃ w, env[i]? = some (some w) ∧ Q w S
def dC (w : W) : DE := fun _ S Q => Q w S
theorem sim_c {K : Fg} {v : V} {w : W} (h : ∀ r H, Rep K r H v w) : Sim K (tC v) (dC w) := fun r H S s env Q Q0 R E d k => k r H S v w .refl R (h r H) d
theorem xe_int {i j} : XE X (.Constant (.int i) j pos) (dC (.int i)) := ⟨_, pe_int, sim_c fun _ _ => .int i⟩
theorem xe_bl {b j} : XE X (.Constant (.bool b) j pos) (dC (.bl b)) := ⟨_, pe_bl, sim_c fun _ _ => .bl b⟩
theorem xe_non {j} : XE X (.Constant .none j pos) (dC .non) := ⟨_, pe_non, sim_c fun _ _ => .non⟩
theorem xe_str {x j} : XE X (.Constant (.str x) j pos) (dC (.str x)) := ⟨_, pe_str, sim_c fun _ _ => .str x⟩
theorem xv (i : Nat) {x : Str} (hN : X.N[i]? = some x := by rfl) (hv : Vis X.env.scope x := by first | exact Or.inl rfl | exact Or.inr (Or.inl rfl) | exact Or.inr (Or.inr rfl)) (hd : (x == ("__debug__" : Str)) = false := by decide)
    (hcd : (x == ("__classdict__" : Str)) = false := by decide) : XE X (.Name x pos) (dVar i) := by
  refine ⟨_, pe_var hN hv hd hcd, fun r H S s env Q Q0 R E d k => ?_⟩
  obtain ⟨w, e, q⟩ := d
  obtain ⟨v, e', h⟩ := E.2 i w e
  exact ⟨v, e', k r H S v w .refl R h q⟩
/-- a built-in type as a value -/
theorem xe_ty {x : Str} {n : String} (hg : Gl X x) (hm : X.mg x = none) (hv : bootBuiltins x = some (.type n)) (hn : x ≠ "__name__" := by decide) (hd : (x == ("__debug__" : Str)) = false := by decide) :
    XE X (.Name x pos) (dC (.raw (.ty n))) := ⟨_, pe_bltn hg hm hv (show RelV (.ty n) (.type n) from rfl) hn hd, sim_c fun _ _ => .raw _⟩

/-! ### arguments, displays -/
def aNil : DA := fun _ S Q => Q [] S
def aCons (da : DE) (dr : DA) : DA := fun env S Q => da env S fun w S1 => dr env S1 fun ws S2 => Q (w :: ws) S2
theorem xa_nil : XA X [] aNil := ⟨_, pa_nil, fun r H S s env Q Q0 R E d k => k r H S [] [] .refl R .nil d⟩
theorem sim_cons {K : Fg} {ta : TE} {tr : TA} {da : DE} {dr : DA} (sa : Sim K ta da) (sr : SimA K tr dr) : SimA K (tCons ta tr) (aCons da dr) := fun r H S s env Q Q0 R E d k =>
  sa r H S s env _ _ R E d fun r1 H1 S1 v w e1 R1 p1 d1 => sr r1 H1 S1 s env _ _ R1 (E.mono e1) d1 fun r2 H2 S2 vs ws e2 R2 p2 q => k r2 H2 S2 _ _ (e1.trans e2) R2 (.cons (p1.mono e2) p2) q
theorem xa_cons {e : Expr} {es : List Expr} {da : DE} {dr : DA} (ha : XE X e da) (hr : XA X es dr) (hs : starEach (e :: es) X.env = (false, eval e X.env) :: starEach es X.env := by rfl) : XA X (e :: es) (aCons da dr) := by
  obtain ⟨ta, pa, sa⟩ := ha.ex
  obtain ⟨tr, pr, sr⟩ := hr.ex
  exact ⟨_, pa_cons pa pr hs, sim_cons sa sr⟩
def dTup (da : DA) : DE := fun env S Q => da env S fun ws S1 => ws.length ≤ sizeLine ∧ Q (.tup ws) S1
def dLst (da : DA) : DE := fun env S Q => da env S fun ws S1 => ws.length ≤ sizeLine ∧ Q (.ref S1.length) (S1 ++ [.lst ws])
theorem xe_tup {es : List Expr} {da : DA} {k : Nat} (ha : XA X es da) : XE X (.Tuple es k pos) (dTup da) := by
  obtain ⟨ta, pa, sa⟩ := ha.ex
  refine ⟨_, pe_tup pa, fun r H S s env Q Q0 R E d k => ?_⟩
  refine sa r H S s env _ _ R E d fun r1 H1 S1 vs ws e1 R1 p1 d1 => ?_
  refine ⟨by rw [p1.length]; exact d1.1, fun p hp => ?_⟩
  exact k r1 _ S1 _ _ (e1.trans (ext_new hp)) (rel_new R1 hp) (rep_tup hp p1) d1.2
theorem xe_lst {es : List Expr} {da : DA} (ha : XA X es da) : XE X (.List es pos) (dLst da) := by
  obtain ⟨ta, pa, sa⟩ := ha.ex
  refine ⟨_, pe_lst pa, fun r H S s env Q Q0 R E d k => ?_⟩
  refine sa r H S s env _ _ R E d fun r1 H1 S1 vs ws e1 R1 p1 d1 => ?_
  refine ⟨by rw [p1.length]; exact d1.1, fun p hp => ?_⟩
  exact k _ _ _ _ _ (e1.trans (ext_mem hp)) (new_lst R1 hp p1) (rep_mem R1) d1.2

/-! ### operators -/
def SimR (K : Fg) (t : R2) (d : W → W → Sto → WK → Prop) : Prop := ∀ (r : List Addr) (H : Hp) (S : Sto) (x y : V) (wx wy : W) (Q : WK) (Q0 : VK), RelS K r H S → Rep K r H x wx → Rep K r H y wy → d wx wy S Q →
  (∀ r' H' S' v w, Ext K r H r' H' → RelS K r' H' S' → Rep K r' H' v w → Q w S' → Q0 v H') → t x y H Q0
def SimU (K : Fg) (t : V → Hp → VK → Prop) (d : W → Sto → WK → Prop) : Prop := ∀ (r : List Addr) (H : Hp) (S : Sto) (x : V) (wx : W) (Q : WK) (Q0 : VK), RelS K r H S → Rep K r H x wx → d wx S Q →
  (∀ r' H' S' v w, Ext K r H r' H' → RelS K r' H' S' → Rep K r' H' v w → Q w S' → Q0 v H') → t x H Q0
def SimC (K : Fg) (t : List V → Hp → VK → Prop) (d : List W → Sto → WK → Prop) : Prop := ∀ (r : List Addr) (H : Hp) (S : Sto) (xs : List V) (ws : List W) (Q : WK) (Q0 : VK), RelS K r H S → RepL K r H xs ws → d ws S Q →
  (∀ r' H' S' v w, Ext K r H r' H' → RelS K r' H' S' → Rep K r' H' v w → Q w S' → Q0 v H') → t xs H Q0
def SimM (K : Fg) (t : V → List V → Hp → VK → Prop) (d : W → List W → Sto → WK → Prop) : Prop := ∀ (r : List Addr) (H : Hp) (S : Sto) (x : V) (xs : List V) (wx : W) (ws : List W) (Q : WK) (Q0 : VK), RelS K r H S → Rep K r H x wx → RepL K r H xs ws → d wx ws S Q →
  (∀ r' H' S' v w, Ext K r H r' H' → RelS K r' H' S' → Rep K r' H' v w → Q w S' → Q0 v H') → t x xs H Q0
def dOp (d : W → W → Sto → WK → Prop) (da db : DE) : DE := fun env S Q => da env S fun x S1 => db env S1 fun y S2 => d x y S2 Q
def dUn (d : W → Sto → WK → Prop) (da : DE) : DE := fun env S Q => da env S fun x S1 => d x S1 Q
def dCB (d : List W → Sto → WK → Prop) (da : DA) : DE := fun env S Q => da env S fun ws S1 => d ws S1 Q
theorem sim_op {K : Fg} {t : R2} {d : W → W → Sto → WK → Prop} {ta tb : TE} {da db : DE} (h : SimR K t d) (sa : Sim K ta da) (sb : Sim K tb db) : Sim K (tOp t ta tb) (dOp d da db) := fun r H S s env Q Q0 R E g k =>
  sa r H S s env _ _ R E g fun r1 H1 S1 v w e1 R1 p1 d1 => sb r1 H1 S1 s env _ _ R1 (E.mono e1) d1 fun r2 H2 S2 u z e2 R2 p2 d2 =>
    h r2 H2 S2 v u w z Q Q0 R2 (p1.mono e2) p2 d2 fun r3 H3 S3 a b e3 => k r3 H3 S3 a b ((e1.trans e2).trans e3)
theorem sim_un {K : Fg} {t : V → Hp → VK → Prop} {d : W → Sto → WK → Prop} {ta : TE} {da : DE} (h : SimU K t d) (sa : Sim K ta da) : Sim K (tUn t ta) (dUn d da) := fun r H S s env Q Q0 R E g k =>
  sa r H S s env _ _ R E g fun r1 H1 S1 v w e1 R1 p1 d1 => h r1 H1 S1 v w Q Q0 R1 p1 d1 fun r3 H3 S3 a b e3 => k r3 H3 S3 a b (e1.trans e3)
theorem sim_cb {K : Fg} {t : List V → Hp → VK → Prop} {d : List W → Sto → WK → Prop} {ta : TA} {da : DA} (h : SimC K t d) (sa : SimA K ta da) : Sim K (tCB t ta) (dCB d da) := fun r H S s env Q Q0 R E g k =>
  sa r H S s env _ _ R E g fun r1 H1 S1 v w e1 R1 p1 d1 => h r1 H1 S1 v w Q Q0 R1 p1 d1 fun r3 H3 S3 a b e3 => k r3 H3 S3 a b (e1.trans e3)
variable {a b e o : Expr} {es : List Expr} {da db : DE} {dA : DA}
theorem xe_op {op : Operator} {t : R2} {d : W → W → Sto → WK → Prop} (ho : OpR X (binaryOp op) t) (h : SimR X.K t d) (ha : XE X a da) (hb : XE X b db) : XE X (.BinOp a op b pos) (dOp d da db) := by
  obtain ⟨ta, pa, sa⟩ := ha.ex
  obtain ⟨tb, pb, sb⟩ := hb.ex
  exact ⟨_, pe_op ho pa pb, sim_op h sa sb⟩
theorem xe_un {op : UnaryOp} {t : V → Hp → VK → Prop} {d : W → Sto → WK → Prop} (ho : UnR X (unaryOp op) t) (h : SimU X.K t d) (ha : XE X a da) : XE X (.UnaryOp op a pos) (dUn d da) := by
  obtain ⟨ta, pa, sa⟩ := ha.ex
  exact ⟨_, pe_un ho pa, sim_un h sa⟩
theorem xe_cmp {op : CmpOp} {t : R2} {d : W → W → Sto → WK → Prop} (ho : OpR X (compareOp op) t) (h : SimR X.K t d) (ha : XE X a da) (hb : XE X b db) (hm : behindInMarks op b = false := by first | exact nomark _ | rfl) : XE X (.Compare a [op] [b] pos) (dOp d da db) := by
  obtain ⟨ta, pa, sa⟩ := ha.ex
  obtain ⟨tb, pb, sb⟩ := hb.ex
  exact ⟨_, pe_cmpR ho pa pb hm, sim_op h sa sb⟩
/-- a bool as a test -/
def dB (da : DE) : DT := fun env S Q => da env S fun w S1 => ∃ c, w = .bl c ∧ Q c S1
theorem sim_B {K : Fg} {t : TE} {d : DE} (sa : Sim K t d) : SimT K (tTest t) (dB d) := fun r H S s env Q Q0 R E g k =>
  sa r H S s env _ _ R E g fun r1 H1 S1 v w e1 R1 p1 d1 => by
    obtain ⟨c, rfl, q⟩ := d1
    cases p1
    exact ⟨c, rfl, k r1 H1 S1 c e1 R1 q⟩
theorem xt_cmp {op : CmpOp} {t : R2} {d : W → W → Sto → WK → Prop} (ho : OpR X (compareOp op) t) (h : SimR X.K t d) (ha : XE X a da) (hb : XE X b db) (hm : behindInMarks op b = false := by first | exact nomark _ | rfl) : XT X (.Compare a [op] [b] pos) (dB (dOp d da db)) := by
  obtain ⟨ta, pa, sa⟩ := ha.ex
  obtain ⟨tb, pb, sb⟩ := hb.ex
  exact ⟨_, pt_cmpR ho pa pb hm, sim_B (sim_op h sa sb)⟩
/-- truth of any value -/
def vTru (w : W) (S : Sto) (Q : Bool → Prop) : Prop := match w with
  | .non => Q false
  | .bl b => Q b
  | .int i => Q (i != 0)
  | .str y => y.length ≤ sizeLine ∧ Q ((y.length : Int) != 0)
  | .tup ws => Q (!ws.isEmpty)
  | .lit ws => Q (!ws.isEmpty)
  | .ref i => (∃ ws, S[i]? = some (.lst ws) ∧ Q (!ws.isEmpty)) ∨ ∃ kvs, S[i]? = some (.dk kvs) ∧ Q (!kvs.isEmpty)
  | .raw _ => False
theorem repL_empty {K : Fg} {r : List Addr} {H : Hp} {vs : List V} {ws : List W} (h : RepL K r H vs ws) : ws.isEmpty = vs.isEmpty := by cases h <;> rfl
theorem tru_sim {K : Fg} {r : List Addr} {H : Hp} {S : Sto} {v : V} {w : W} {Q : Bool → Prop} (R : RelS K r H S) (p : Rep K r H v w) (h : vTru w S Q) : ∃ k, TruV K v H k ∧ Q k := by
  cases p with
  | non => exact ⟨false, rfl, h⟩
  | bl b => exact ⟨b, rfl, h⟩
  | int i => exact ⟨_, rfl, h⟩
  | str x => exact ⟨_, ⟨h.1, rfl⟩, h.2⟩
  | tup q l => exact ⟨_, .inr (.inl ⟨_, q, rfl⟩), by rw [← repL_empty l]; exact h⟩
  | lit q l => exact ⟨_, .inl ⟨_, q.1, rfl⟩, by rw [← repL_empty l]; exact h⟩
  | @ref x i q =>
    rcases h with ⟨ws, e, h⟩ | ⟨kvs, e, h⟩
    · obtain ⟨xs, h1, h2⟩ := R.obj i _ _ q e
      exact ⟨_, .inl ⟨_, .of h1, rfl⟩, by rw [← repL_empty h2]; exact h⟩
    · obtain ⟨xs, h1, h2, h3⟩ := R.obj i _ _ q e
      refine ⟨_, .inr (.inr ⟨_, h1, rfl⟩), ?_⟩
      have e : kvs.isEmpty = xs.isEmpty := by
        have := congrArg List.isEmpty h2
        simp only [List.isEmpty_map] at this
        exact this.symm
      rw [← e]
      exact h
  | raw v => exact h.elim
def dTru (da : DE) : DT := fun env S Q => da env S fun w S1 => vTru w S1 fun b => Q b S1
theorem xt_val (ha : XE X a da) (he : ∀ whole, isTrue a X.env whole = (do let v ← whole; standAt a.pos; holding [v] (truthy v)) := by intro _; rfl) : XT X a (dTru da) := by
  obtain ⟨ta, pa, sa⟩ := ha.ex
  refine ⟨_, pt_truth pa he, fun r H S s env Q Q0 R E g k => ?_⟩
  refine sa r H S s env _ _ R E g fun r1 H1 S1 v w e1 R1 p1 d1 => ?_
  obtain ⟨c, h1, h2⟩ := tru_sim R1 p1 d1
  exact ⟨c, h1, k r1 H1 S1 c e1 R1 h2⟩
/-! ### and, or, not, if -/
variable {tA tB : DT} {rest : List Expr}
def dAndT (t u : DT) : DT := fun env S Q => t env S fun c S1 => if c = true then u env S1 Q else Q false S1
def dOrT (t u : DT) : DT := fun env S Q => t env S fun c S1 => if c = true then Q true S1 else u env S1 Q
def dNotT (t : DT) : DT := fun env S Q => t env S fun c S1 => Q (!c) S1
theorem xw_and1 (ha : XT X a tA) : XW X (.BoolOp .And [a] pos) tA := by
  obtain ⟨t, p, s⟩ := ha.ex
  exact ⟨_, pw_and1 p, s⟩
theorem xw_or1 (ha : XT X a tA) : XW X (.BoolOp .Or [a] pos) tA := by
  obtain ⟨t, p, s⟩ := ha.ex
  exact ⟨_, pw_or1 p, s⟩
theorem sim_and {K : Fg} {t u : TT} {d f : DT} (s1 : SimT K t d) (s2 : SimT K u f) : SimT K (tAnd t u) (dAndT d f) := fun r H S s env Q Q0 R E g k =>
  s1 r H S s env _ _ R E g fun r1 H1 S1 c e1 R1 q => by
    cases c with
    | true =>
      rw [if_pos rfl] at q ⊢
      exact s2 r1 H1 S1 s env _ _ R1 (E.mono e1) q fun r2 H2 S2 b e2 => k r2 H2 S2 b (e1.trans e2)
    | false =>
      rw [if_neg Bool.false_ne_true] at q ⊢
      exact k r1 H1 S1 false e1 R1 q
theorem sim_or {K : Fg} {t u : TT} {d f : DT} (s1 : SimT K t d) (s2 : SimT K u f) : SimT K (tOr t u) (dOrT d f) := fun r H S s env Q Q0 R E g k =>
  s1 r H S s env _ _ R E g fun r1 H1 S1 c e1 R1 q => by
    cases c with
    | false =>
      rw [if_neg Bool.false_ne_true] at q ⊢
      exact s2 r1 H1 S1 s env _ _ R1 (E.mono e1) q fun r2 H2 S2 b e2 => k r2 H2 S2 b (e1.trans e2)
    | true =>
      rw [if_pos rfl] at q ⊢
      exact k r1 H1 S1 true e1 R1 q
theorem xw_and (ha : XT X a tA) (hb : XW X (.BoolOp .And (b :: rest) pos) tB) : XW X (.BoolOp .And (a :: b :: rest) pos) (dAndT tA tB) := by
  obtain ⟨t, p, s⟩ := ha.ex
  obtain ⟨t2, p2, s2⟩ := hb.ex
  exact ⟨_, pw_and p p2, sim_and s s2⟩
theorem xw_or (ha : XT X a tA) (hb : XW X (.BoolOp .Or (b :: rest) pos) tB) : XW X (.BoolOp .Or (a :: b :: rest) pos) (dOrT tA tB) := by
  obtain ⟨t, p, s⟩ := ha.ex
  obtain ⟨t2, p2, s2⟩ := hb.ex
  exact ⟨_, pw_or p p2, sim_or s s2⟩
theorem XW.xt (h : XW X e tA) : XT X e tA := by
  obtain ⟨t, p, s⟩ := h.ex
  exact ⟨_, p.pt, s⟩
theorem xt_not (ha : XT X a tA) : XT X (.UnaryOp .Not a pos) (dNotT tA) := by
  obtain ⟨t, p, s⟩ := ha.ex
  exact ⟨_, pt_not p, fun r H S s' env Q Q0 R E g k => s r H S s' env _ _ R E g fun r1 H1 S1 c e1 R1 q => k r1 H1 S1 _ e1 R1 q⟩
/-- and, or, not as values: bools -/
def dAndV (da db : DE) : DE := fun env S Q => da env S fun w S1 => ∃ c, w = .bl c ∧ if c = true then db env S1 Q else Q (.bl false) S1
def dOrV (da db : DE) : DE := fun env S Q => da env S fun w S1 => ∃ c, w = .bl c ∧ if c = true then Q (.bl true) S1 else db env S1 Q
def dNotV (da : DE) : DE := fun env S Q => da env S fun w S1 => ∃ c, w = .bl c ∧ Q (.bl (!c)) S1
theorem xe_one {op} (ha : XE X a da) : XE X (.BoolOp op [a] pos) da := by
  obtain ⟨t, p, s⟩ := ha.ex
  exact ⟨_, pe_one p, s⟩
theorem xe_and (ha : XE X a da) (hb : XE X (.BoolOp .And (b :: rest) pos) db) : XE X (.BoolOp .And (a :: b :: rest) pos) (dAndV da db) := by
  obtain ⟨t, p, s⟩ := ha.ex
  obtain ⟨t2, p2, s2⟩ := hb.ex
  refine ⟨_, pe_and p p2, fun r H S s' env Q Q0 R E g k => ?_⟩
  refine s r H S s' env _ _ R E g fun r1 H1 S1 v w e1 R1 q1 d1 => ?_
  obtain ⟨c, rfl, d1⟩ := d1
  cases q1
  refine ⟨c, rfl, ?_⟩
  cases c with
  | true =>
    rw [if_pos rfl] at d1 ⊢
    exact s2 r1 H1 S1 s' env _ _ R1 (E.mono e1) d1 fun r2 H2 S2 b y e2 => k r2 H2 S2 b y (e1.trans e2)
  | false =>
    rw [if_neg Bool.false_ne_true] at d1 ⊢
    exact k r1 H1 S1 _ _ e1 R1 (.bl false) d1
theorem xe_or (ha : XE X a da) (hb : XE X (.BoolOp .Or (b :: rest) pos) db) : XE X (.BoolOp .Or (a :: b :: rest) pos) (dOrV da db) := by
  obtain ⟨t, p, s⟩ := ha.ex
  obtain ⟨t2, p2, s2⟩ := hb.ex
  refine ⟨_, pe_or p p2, fun r H S s' env Q Q0 R E g k => ?_⟩
  refine s r H S s' env _ _ R E g fun r1 H1 S1 v w e1 R1 q1 d1 => ?_
  obtain ⟨c, rfl, d1⟩ := d1
  cases q1
  refine ⟨c, rfl, ?_⟩
  cases c with
  | false =>
    rw [if_neg Bool.false_ne_true] at d1 ⊢
    exact s2 r1 H1 S1 s' env _ _ R1 (E.mono e1) d1 fun r2 H2 S2 b y e2 => k r2 H2 S2 b y (e1.trans e2)
  | true =>
    rw [if_pos rfl] at d1 ⊢
    exact k r1 H1 S1 _ _ e1 R1 (.bl true) d1
theorem xe_not (ha : XE X a da) : XE X (.UnaryOp .Not a pos) (dNotV da) := by
  obtain ⟨t, p, s⟩ := ha.ex
  refine ⟨_, pe_not p, fun r H S s' env Q Q0 R E g k => ?_⟩
  refine s r H S s' env _ _ R E g fun r1 H1 S1 v w e1 R1 q1 d1 => ?_
  obtain ⟨c, rfl, d1⟩ := d1
  cases q1
  exact ⟨c, rfl, k r1 H1 S1 _ _ e1 R1 (.bl _) d1⟩
def dIf (t : DT) (da db : DE) : DE := fun env S Q => t env S fun c S1 => if c = true then da env S1 Q else db env S1 Q
theorem xe_if {c : Expr} (hc : XT X c tA) (ha : XE X a da) (hb : XE X b db) : XE X (.IfExp c a b pos) (dIf tA da db) := by
  obtain ⟨t, p, s⟩ := hc.ex
  obtain ⟨t1, p1, s1⟩ := ha.ex
  obtain ⟨t2, p2, s2⟩ := hb.ex
  refine ⟨_, pe_ifExp p p1 p2, fun r H S s' env Q Q0 R E g k => ?_⟩
  refine s r H S s' env _ _ R E g fun r1 H1 S1 c e1 R1 d1 => ?_
  cases c with
  | true =>
    rw [if_pos rfl] at d1 ⊢
    exact s1 r1 H1 S1 s' env _ _ R1 (E.mono e1) d1 fun r2 H2 S2 b y e2 => k r2 H2 S2 b y (e1.trans e2)
  | false =>
    rw [if_neg Bool.false_ne_true] at d1 ⊢
    exact s2 r1 H1 S1 s' env _ _ R1 (E.mono e1) d1 fun r2 H2 S2 b y e2 => k r2 H2 S2 b y (e1.trans e2)
/-! ### calls -/
variable {x : Str} {p : Pos} {id T : String}
theorem xe_callB {t : List V → Hp → VK → Prop} {d : List W → Sto → WK → Prop} (hc : CallR X (.builtin id) t) (h : SimC X.K t d) (hg : Gl X x) (hm : X.mg x = none) (hv : bootBuiltins x = some (.builtin id)) (ha : XA X (e :: es) dA) (hn : x ≠ "__name__" := by decide) (hdb : (x == ("__debug__" : Str)) = false := by decide)
    (he : starEach (e :: es) X.env = (false, eval e X.env) :: starEach es X.env := by rfl) (hpl : (backTo pos (starEach es X.env)).any (·.1) = false := by rfl) : XE X (.Call (.Name x p) (e :: es) [] pos) (dCB d dA) := by
  obtain ⟨ta, pa, sa⟩ := ha.ex
  exact ⟨_, pe_callB hc hg hm hv pa hn hdb he hpl, sim_cb h sa⟩
theorem xe_callTy {t : List V → Hp → VK → Prop} {d : List W → Sto → WK → Prop} (hc : CallR X (.type T) t) (h : SimC X.K t d) (hg : Gl X x) (hm : X.mg x = none) (hv : bootBuiltins x = some (.type T)) (ha : XA X (e :: es) dA) (hn : x ≠ "__name__" := by decide) (hdb : (x == ("__debug__" : Str)) = false := by decide)
    (he : starEach (e :: es) X.env = (false, eval e X.env) :: starEach es X.env := by rfl) (hpl : (backTo pos (starEach es X.env)).any (·.1) = false := by rfl) : XE X (.Call (.Name x p) (e :: es) [] pos) (dCB d dA) := by
  obtain ⟨ta, pa, sa⟩ := ha.ex
  exact ⟨_, pe_callTy hc hg hm hv pa hn hdb he hpl, sim_cb h sa⟩
/-- methods of built-in types -/
def vTy (T : String) (w : W) (S : Sto) : Prop := match w with
  | .str _ => T = "str"
  | .ref i => (T = "list" ∧ ∃ ws, S[i]? = some (.lst ws)) ∨ (T = "dict" ∧ ∃ ws, S[i]? = some (.dk ws))
  | .lit _ => T = "list"
  | _ => False
theorem ty_sim {K : Fg} {r : List Addr} {H : Hp} {S : Sto} {v : V} {w : W} (R : RelS K r H S) (p : Rep K r H v w) (h : vTy T w S) : tyV K T v H := by
  cases p with
  | str x => exact h
  | lit q l => exact .inl ⟨h, _, q.1⟩
  | @ref a i q =>
    rcases h with ⟨h, ws, e⟩ | ⟨h, ws, e⟩
    · obtain ⟨xs, h1, _⟩ := R.obj i _ _ q e
      exact .inl ⟨h, _, .of h1⟩
    · obtain ⟨xs, h1, _⟩ := R.obj i _ _ q e
      exact .inr (.inr (.inl ⟨h, .inl ⟨_, h1⟩⟩))
  | _ => exact h.elim
def dBM (T : String) (d : W → List W → Sto → WK → Prop) (da : DE) (dr : DA) : DE := fun env S Q => da env S fun x S1 => vTy T x S1 ∧ dr env S1 fun ws S2 => d x ws S2 Q
def dBM0 (T : String) (d : W → List W → Sto → WK → Prop) (da : DE) : DE := fun env S Q => da env S fun x S1 => vTy T x S1 ∧ d x [] S1 Q
variable {name : Str} {apos cpos : Pos}
theorem xe_bm {t : V → List V → Hp → VK → Prop} {d : W → List W → Sto → WK → Prop} (pa : PlainAttrs T) (slot : Slot T name id) (hty : typeOf (.builtin id) = pure (.type "method_descriptor")) (hm : MtR X id t) (h : SimM X.K t d) (ho : XE X o da) (ha : XA X (e :: es) dA)
    (hbase : attributeBase o name X.env (eval o X.env) = eval o X.env := by rfl)
    (hfew : ((backTo cpos (starEach (e :: es) X.env)).all (fun x => !x.1) && (backToKw cpos (keywordEach [] X.env)).all (fun x => x.1.isSome)
      && decide ((e :: es).length + ([] : List Keyword).length + (if ([] : List Keyword).isEmpty then 0 else 1) < 30)) = true := by rfl)
    (hline : (apos.endLine == cpos.line) = true := by rfl) (hs : starEach (e :: es) X.env = (false, eval e X.env) :: starEach es X.env := by rfl) (hplain : (backTo cpos (starEach es X.env)).any (·.1) = false := by rfl) :
    XE X (.Call (.Attribute o name apos) (e :: es) [] cpos) (dBM T d da dA) := by
  obtain ⟨ta, p1, sa⟩ := ho.ex
  obtain ⟨tr, p2, sr⟩ := ha.ex
  refine ⟨_, pe_bm pa slot hty hm p1 p2 hbase hfew hline hs hplain, fun r H S s env Q Q0 R E g k => ?_⟩
  refine sa r H S s env _ _ R E g fun r1 H1 S1 v w e1 R1 q1 d1 => ⟨ty_sim R1 q1 d1.1, ?_⟩
  refine sr r1 H1 S1 s env _ _ R1 (E.mono e1) d1.2 fun r2 H2 S2 vs ws e2 R2 q2 d2 => ?_
  exact h r2 H2 S2 v vs w ws Q Q0 R2 (q1.mono e2) q2 d2 fun r3 H3 S3 x y e3 => k r3 H3 S3 x y ((e1.trans e2).trans e3)
theorem xe_bm0 {t : V → List V → Hp → VK → Prop} {d : W → List W → Sto → WK → Prop} (pa : PlainAttrs T) (slot : Slot T name id) (hty : typeOf (.builtin id) = pure (.type "method_descriptor")) (hm : MtR X id t) (h : SimM X.K t d) (ho : XE X o da)
    (hbase : attributeBase o name X.env (eval o X.env) = eval o X.env := by rfl) (hline : (apos.endLine == cpos.line) = true := by rfl) : XE X (.Call (.Attribute o name apos) [] [] cpos) (dBM0 T d da) := by
  obtain ⟨ta, p1, sa⟩ := ho.ex
  refine ⟨_, pe_bm0 pa slot hty hm p1 hbase hline, fun r H S s env Q Q0 R E g k => ?_⟩
  refine sa r H S s env _ _ R E g fun r1 H1 S1 v w e1 R1 q1 d1 => ⟨ty_sim R1 q1 d1.1, ?_⟩
  exact h r1 H1 S1 v [] w [] Q Q0 R1 q1 .nil d1.2 fun r3 H3 S3 x y e3 => k r3 H3 S3 x y (e1.trans e3)
/-! ### subscripts, slices -/
theorem xe_ix {t : R2} {d : W → W → Sto → WK → Prop} (hr : IxR X t) (h : SimR X.K t d) (ha : XE X a da) (hb : XE X b db) (hs : PlainIx b := by exact fun _ _ => rfl) : XE X (.Subscript a b pos) (dOp d da db) := by
  obtain ⟨ta, p1, s1⟩ := ha.ex
  obtain ⟨tb, p2, s2⟩ := hb.ex
  exact ⟨_, pe_ix hr p1 p2 hs, sim_op h s1 s2⟩
abbrev DO := Slots → Sto → (Option Int → Sto → Prop) → Prop
def SimO (K : Fg) (t : TO) (d : DO) : Prop := ∀ (r : List Addr) (H : Hp) (S : Sto) (s : L2.St) (env : Slots) (Q : Option Int → Sto → Prop) (Q0 : Option Int → Hp → Prop), RelS K r H S → RepE K r H s env → d env S Q →
  (∀ r' H' S' i, Ext K r H r' H' → RelS K r' H' S' → Q i S' → Q0 i H') → t s H Q0
structure XO (X : Cx) (e : Option Expr) (d : DO) : Prop where
  ex : ∃ t, PO X e t ∧ SimO X.K t d
def oNone : DO := fun _ S Q => Q none S
def oSome (d : DE) : DO := fun env S Q => d env S fun w S1 => ∃ i, w = .int i ∧ Q (some i) S1
theorem xo_none : XO X none oNone := ⟨_, po_none, fun r H S s env Q Q0 R E g k => k r H S none .refl R g⟩
theorem xo_some (ha : XE X a da) : XO X (some a) (oSome da) := by
  obtain ⟨ta, p1, s1⟩ := ha.ex
  refine ⟨_, po_some p1, fun r H S s env Q Q0 R E g k => ?_⟩
  refine s1 r H S s env _ _ R E g fun r1 H1 S1 v w e1 R1 q1 d1 => ?_
  obtain ⟨i, rfl, d1⟩ := d1
  cases q1
  exact ⟨i, rfl, k r1 H1 S1 _ e1 R1 d1⟩
def SimSl (K : Fg) (t : V → Option Int → Option Int → Hp → VK → Prop) (d : W → Option Int → Option Int → Sto → WK → Prop) : Prop := ∀ (r : List Addr) (H : Hp) (S : Sto) (x : V) (wx : W) (lo hi : Option Int) (Q : WK) (Q0 : VK), RelS K r H S → Rep K r H x wx → d wx lo hi S Q →
  (∀ r' H' S' v w, Ext K r H r' H' → RelS K r' H' S' → Rep K r' H' v w → Q w S' → Q0 v H') → t x lo hi H Q0
def dSl (d : W → Option Int → Option Int → Sto → WK → Prop) (da : DE) (dl dh : DO) : DE := fun env S Q => da env S fun x S1 => dl env S1 fun l S2 => dh env S2 fun u S3 => d x l u S3 Q
theorem xe_slice {lo hi : Option Expr} {p2 : Pos} {dl dh : DO} {t : V → Option Int → Option Int → Hp → VK → Prop} {d : W → Option Int → Option Int → Sto → WK → Prop} (hr : SlR X t) (h : SimSl X.K t d) (ha : XE X a da) (hl : XO X lo dl) (hu : XO X hi dh) : XE X (.Subscript a (.Slice lo hi none p2) pos) (dSl d da dl dh) := by
  obtain ⟨ta, p1, s1⟩ := ha.ex
  obtain ⟨tl, q1, u1⟩ := hl.ex
  obtain ⟨th, q2, u2⟩ := hu.ex
  refine ⟨_, pe_slice hr p1 q1 q2, fun r H S s env Q Q0 R E g k => ?_⟩
  refine s1 r H S s env _ _ R E g fun r1 H1 S1 v w e1 R1 z1 d1 => ?_
  refine u1 r1 H1 S1 s env _ _ R1 (E.mono e1) d1 fun r2 H2 S2 i e2 R2 d2 => ?_
  refine u2 r2 H2 S2 s env _ _ R2 (E.mono (e1.trans e2)) d2 fun r3 H3 S3 j e3 R3 d3 => ?_
  exact h r3 H3 S3 v w i j Q Q0 R3 (z1.mono (e2.trans e3)) d3 fun r4 H4 S4 x y e4 => k r4 H4 S4 x y (((e1.trans e2).trans e3).trans e4)
end
end DL

/-! DLc: statements, targets, loops, comprehensions, defs. -/
namespace DL
open PySem PySem.Spec PyProof.Rows L2

section
variable {X : Cx} {pos : Pos} {e : Expr} {es : List Expr} {st : Stmt} {rest body : List Stmt} {t u : DS} {de : DE}
def dNext : DS := fun D env S => D.nx env S
def dSeq (t u : DS) : DS := fun D env S => t { D with nx := u D } env S
def dBreak : DS := fun D env S => D.bk env S
def dCont : DS := fun D env S => D.ct env S
theorem xss_nil : XSs X [] dNext := ⟨_, pss_nil, fun r H S s env D' D R E d k => k.nx r H S s env .refl R E d⟩
theorem xss_cons (h1 : XS X st t) (h2 : XSs X rest u) : XSs X (st :: rest) (dSeq t u) := by
  obtain ⟨t1, p1, s1⟩ := h1.ex
  obtain ⟨t2, p2, s2⟩ := h2.ex
  refine ⟨_, pss_cons p1 p2, fun r H S s env D' D R E d k => ?_⟩
  exact s1 r H S s env _ _ R E d ⟨fun r1 H1 S1 s1' env1 e1 R1 E1 q => s2 r1 H1 S1 s1' env1 D' D R1 E1 q (k.mono e1), k.rt, k.bk, k.ct⟩
theorem xss_one (h1 : XS X st t) : XSs X [st] t := by
  obtain ⟨t1, p1, s1⟩ := h1.ex
  exact ⟨_, pss_one p1, s1⟩
theorem xs_pass : XS X (.Pass pos) dNext := ⟨_, ps_pass, fun r H S s env D' D R E d k => k.nx r H S s env .refl R E d⟩
theorem xs_break : XS X (.Break pos) dBreak := ⟨_, ps_break, fun r H S s env D' D R E d k => k.bk r H S s env .refl R E d⟩
theorem xs_continue : XS X (.Continue pos) dCont := ⟨_, ps_continue, fun r H S s env D' D R E d k => k.ct r H S s env .refl R E d⟩
theorem xs_doc {x j pos'} : XS X (.Expr (.Constant (.str x) j pos) pos') dNext := ⟨_, ps_doc, fun r H S s env D' D R E d k => k.nx r H S s env .refl R E d⟩
def dNever : DS := fun _ _ _ => False
theorem xs_never : XS X st dNever := ⟨_, ps_never, fun _ _ _ _ _ _ _ _ _ d _ => d.elim⟩
theorem xss_never : XSs X body dNever := ⟨_, pss_never, fun _ _ _ _ _ _ _ _ _ d _ => d.elim⟩
def dDrop (d : DE) : DS := fun D env S => d env S fun _ S1 => D.nx env S1
theorem xs_expr (h : XE X e de) (hs : swapsWith e none pos.line X.env = pure false := by rfl) : XS X (.Expr e pos) (dDrop de) := by
  obtain ⟨t1, p1, s1⟩ := h.ex
  refine ⟨_, ps_expr p1 hs, fun r H S s env D' D R E d k => ?_⟩
  exact s1 r H S s env _ _ R E d fun r1 H1 S1 v w e1 R1 q1 d1 => k.nx r1 H1 S1 s env e1 R1 (E.mono e1) d1
def dRet (d : DE) : DS := fun D env S => d env S D.rt
theorem xs_ret (h : XE X e de) : XS X (.Return (some e) pos) (dRet de) := by
  obtain ⟨t1, p1, s1⟩ := h.ex
  refine ⟨_, ps_ret p1, fun r H S s env D' D R E d k => ?_⟩
  exact s1 r H S s env _ _ R E d fun r1 H1 S1 v w e1 R1 q1 d1 => k.rt r1 H1 S1 v w e1 R1 q1 d1
def dRetN : DS := fun D _ S => D.rt .non S
theorem xs_retN : XS X (.Return none pos) dRetN := ⟨_, ps_retN, fun r H S s env D' D R E d k => k.rt r H S _ _ .refl R .non d⟩
def dIfS (c : DT) (t u : DS) : DS := fun D env S => c env S fun b S1 => if b = true then t D env S1 else u D env S1
theorem xs_if {c : Expr} {a b : List Stmt} {dc : DT} (hc : XT X c dc) (ha : XSs X a t) (hb : XSs X b u) : XS X (.If c a b pos) (dIfS dc t u) := by
  obtain ⟨t0, p0, s0⟩ := hc.ex
  obtain ⟨t1, p1, s1⟩ := ha.ex
  obtain ⟨t2, p2, s2⟩ := hb.ex
  refine ⟨_, ps_if p0 p1 p2, fun r H S s env D' D R E d k => ?_⟩
  refine s0 r H S s env _ _ R E d fun r1 H1 S1 c e1 R1 d1 => ?_
  cases c with
  | true =>
    rw [if_pos rfl] at d1 ⊢
    exact s1 r1 H1 S1 s env D' D R1 (E.mono e1) d1 (k.mono e1)
  | false =>
    rw [if_neg Bool.false_ne_true] at d1 ⊢
    exact s2 r1 H1 S1 s env D' D R1 (E.mono e1) d1 (k.mono e1)
/-! ### targets -/
abbrev DGs := List W → Slots → Sto → (Slots → Sto → Prop) → Prop
def SimGs (K : Fg) (t : TGs) (d : DGs) : Prop := ∀ (r : List Addr) (H : Hp) (S : Sto) (s : L2.St) (env : Slots) (vs : List V) (ws : List W) (Q : Slots → Sto → Prop) (Q0 : L2.St → Hp → Prop), RelS K r H S → RepE K r H s env → RepL K r H vs ws → d ws env S Q →
  (∀ r' H' S' s' env', Ext K r H r' H' → RelS K r' H' S' → RepE K r' H' s' env' → Q env' S' → Q0 s' H') → t vs s H Q0
structure XGs (X : Cx) (tg : List Expr) (d : DGs) : Prop where
  ex : ∃ t, PGs X tg t ∧ SimGs X.K t d
def gNm (i : Nat) : DG := fun w env S Q => Q (env.set i (some w)) S
theorem xg_name {x : Str} (i : Nat) (hN : X.N.Nodup) (hi : X.N[i]? = some x := by rfl) (hx : Loc X.env.scope x := by first | exact Or.inl rfl | exact Or.inr rfl) (hf : X.fn x = true ∨ X.env.scope.names.lookup x = some .local := by first | exact .inl rfl | exact .inr rfl) : XG X (.Name x pos) (gNm i) :=
  ⟨_, pg_name hN hi hx hf, fun r H S s env v w Q Q0 R E p d k => k r H S _ _ .refl R (E.set p i) d⟩
def gN0 : DGs := fun ws env S Q => ws = [] ∧ Q env S
def gC (g : DG) (gs : DGs) : DGs := fun ws env S Q => ∃ w ws', ws = w :: ws' ∧ g w env S fun env1 S1 => gs ws' env1 S1 Q
theorem xgs_nil : XGs X [] gN0 := ⟨_, pgs_nil, fun r H S s env vs ws Q Q0 R E p d k => by
  obtain ⟨rfl, d⟩ := d
  cases p
  exact ⟨rfl, k r H S _ _ .refl R E d⟩⟩
theorem xgs_cons {g : DG} {gs : DGs} (h1 : XG X e g) (h2 : XGs X es gs) (hs : (assignEach (e :: es) X.env).map (·.2) = assign e X.env :: (assignEach es X.env).map (·.2) := by rfl) : XGs X (e :: es) (gC g gs) := by
  obtain ⟨t1, p1, s1⟩ := h1.ex
  obtain ⟨t2, p2, s2⟩ := h2.ex
  refine ⟨_, pgs_cons p1 p2 hs, fun r H S s env vs ws Q Q0 R E p d k => ?_⟩
  obtain ⟨w, ws', rfl, d⟩ := d
  cases p with
  | cons q l =>
    refine ⟨_, _, rfl, ?_⟩
    refine s1 r H S s env _ _ _ _ R E q d fun r1 H1 S1 s1' env1 e1 R1 E1 d1 => ?_
    exact s2 r1 H1 S1 s1' env1 _ _ _ _ R1 E1 (l.mono e1) d1 fun r2 H2 S2 x y e2 => k r2 H2 S2 x y (e1.trans e2)
def gTp (n : Nat) (gs : DGs) : DG := fun w env S Q => ∃ ws, w = .tup ws ∧ ws.length = n ∧ gs ws env S Q
theorem xg_tup {k n : Nat} {gs : DGs} (hc : X.calm = true) (h : XGs X es gs) (hn : (assignEach es X.env).length = n := by rfl) (hst : (assignEach es X.env).findIdx? (·.1) = none := by rfl) : XG X (.Tuple es k pos) (gTp n gs) := by
  obtain ⟨t1, p1, s1⟩ := h.ex
  refine ⟨_, pg_tup hc p1 hn hst, fun r H S s env v w Q Q0 R E p d k => ?_⟩
  obtain ⟨ws, rfl, hl, d⟩ := d
  cases p with
  | tup q l =>
    exact ⟨_, _, rfl, q, by rw [l.length]; exact hl, s1 r H S s env _ _ _ _ R E l d k⟩
/-- o[i] = v -/
def SimSet (K : Fg) (t : TSet) (d : W → W → W → Sto → (Sto → Prop) → Prop) : Prop := ∀ (r : List Addr) (H : Hp) (S : Sto) (o i v : V) (wo wi w : W) (Q : Sto → Prop) (Q0 : Hp → Prop), RelS K r H S → Rep K r H o wo → Rep K r H i wi → Rep K r H v w → d wo wi w S Q →
  (∀ r' H' S', Ext K r H r' H' → RelS K r' H' S' → Q S' → Q0 H') → t o i v H Q0
def gSb (do' di : DE) (d : W → W → W → Sto → (Sto → Prop) → Prop) : DG := fun w env S Q => do' env S fun o S1 => di env S1 fun i S2 => d o i w S2 fun S3 => Q env S3
theorem xg_sub {o i : Expr} {d0 d1 : DE} {t : TSet} {d : W → W → W → Sto → (Sto → Prop) → Prop} (hs : PSet X t) (h : SimSet X.K t d) (ho : XE X o d0) (hi : XE X i d1)
    (ha : ∀ v, assign (.Subscript o i pos) X.env v = (do
      let ov ← holding [v] (eval o X.env)
      let iv ← holding [v, ov] (eval i X.env)
      standAt pos
      holding [v, ov, iv] (setItem ov iv v)
      release [v, ov, iv] []) := by intro _; rfl) : XG X (.Subscript o i pos) (gSb d0 d1 d) := by
  obtain ⟨t1, p1, s1⟩ := ho.ex
  obtain ⟨t2, p2, s2⟩ := hi.ex
  refine ⟨_, pg_sub p1 p2 hs ha, fun r H S s env v w Q Q0 R E p g k => ?_⟩
  refine s1 r H S s env _ _ R E g fun r1 H1 S1 x wx e1 R1 q1 g1 => ?_
  refine s2 r1 H1 S1 s env _ _ R1 (E.mono e1) g1 fun r2 H2 S2 y wy e2 R2 q2 g2 => ?_
  exact h r2 H2 S2 x y v wx wy w _ _ R2 (q1.mono e2) q2 (p.mono (e1.trans e2)) g2 fun r3 H3 S3 e3 R3 q3 => k r3 H3 S3 s env ((e1.trans e2).trans e3) R3 (E.mono ((e1.trans e2).trans e3)) q3
def dAsg (d : DE) (g : DG) : DS := fun D env S => d env S fun w S1 => g w env S1 D.nx
theorem sim_asg {K : Fg} {te : TE} {tg : TG} {d : DE} {g : DG} (s1 : Sim K te d) (s2 : SimG K tg g) : SimS K (tAsg te tg) (dAsg d g) := fun r H S s env D' D R E d k =>
  s1 r H S s env _ _ R E d fun r1 H1 S1 v w e1 R1 q1 d1 => s2 r1 H1 S1 s env v w _ _ R1 (E.mono e1) q1 d1 fun r2 H2 S2 s' env' e2 R2 E2 q => k.nx r2 H2 S2 s' env' (e1.trans e2) R2 E2 q
theorem xs_asg {tg : Expr} {g : DG} (he : XE X e de) (hg : XG X tg g) (hs : swapsWithSole [tg] e pos.line X.env = pure false := by rfl) (hw : swappedStores [tg] e X.env = pure none := by rfl)
    (h1 : (assignEach [tg] X.env).map (·.2) = [assign tg X.env] := by rfl) : XS X (.Assign [tg] e pos) (dAsg de g) := by
  obtain ⟨t1, p1, s1⟩ := he.ex
  obtain ⟨t2, p2, s2⟩ := hg.ex
  exact ⟨_, ps_asg p1 p2 hs hw h1, sim_asg s1 s2⟩
theorem xs_set {x : Str} {pos' : Pos} (i : Nat) (hN : X.N.Nodup) (he : XE X e de) (hi : X.N[i]? = some x := by rfl) (hx : Loc X.env.scope x := by first | exact Or.inl rfl | exact Or.inr rfl) (hs : swapsWith e (some (.Name x pos')) pos.line X.env = pure false := by rfl) (hf : X.fn x = true ∨ X.env.scope.names.lookup x = some .local := by first | exact .inl rfl | exact .inr rfl) :
    XS X (.Assign [.Name x pos'] e pos) (dAsg de (gNm i)) := by
  obtain ⟨t1, p1, s1⟩ := he.ex
  exact ⟨_, ps_set hN hi hx p1 hs hf, sim_asg s1 fun r H S s env v w Q Q0 R E p d k => k r H S _ _ .refl R (E.set p i) d⟩
/-- a, b = x, y -/
def dPar (i j : Nat) (da : DA) : DS := fun D env S => da env S fun ws S1 => ∃ v w, ws = [v, w] ∧ D.nx ((env.set i (some v)).set j (some w)) S1
theorem xs_par {x y : Str} {a b : Expr} {da : DA} {px py pt : Pos} {kt k2 pt2} (i j : Nat) (hc : X.calm = true) (hN : X.N.Nodup) (ha : XA X [a, b] da) (hi : X.N[i]? = some x := by rfl) (hj : X.N[j]? = some y := by rfl) (hij : i ≠ j := by decide)
    (hx : X.env.scope.names.lookup x = some .local := by rfl) (hy : X.env.scope.names.lookup y = some .local := by rfl)
    (hw : swappedStores [.Tuple [.Name x px, .Name y py] kt pt] (.Tuple [a, b] k2 pt2) X.env = pure (some [x, y]) := by rfl)
    (hs : swapsWithSole [.Tuple [.Name x px, .Name y py] kt pt] (.Tuple [a, b] k2 pt2) pos.line X.env = pure false := by rfl) :
    XS X (.Assign [.Tuple [.Name x px, .Name y py] kt pt] (.Tuple [a, b] k2 pt2) pos) (dPar i j da) := by
  obtain ⟨t1, p1, s1⟩ := ha.ex
  refine ⟨_, ps_par hc hN hi hj hij hx hy p1 hw hs, fun r H S s env D' D R E d k => ?_⟩
  refine s1 r H S s env _ _ R E d fun r1 H1 S1 vs ws e1 R1 q1 d1 => ?_
  obtain ⟨v, w, rfl, d1⟩ := d1
  cases q1 with
  | cons q l =>
    cases l with
    | cons q' l' =>
      cases l'
      exact ⟨_, _, rfl, k.nx r1 H1 S1 _ _ e1 R1 (((E.mono e1).set q i).set q' j) d1⟩
/-- name op= e -/
def SimIp (K : Fg) (t : TIp) (d : W → W → Sto → WK → Prop) : Prop := SimR K t d
def dAug (i : Nat) (de : DE) (d : W → W → Sto → WK → Prop) : DS := fun D env S => ∃ x, env[i]? = some (some x) ∧ de env S fun y S1 => d x y S1 fun z S2 => D.nx (env.set i (some z)) S2
theorem xs_aug {x : Str} {op : Operator} {t : TIp} {d : W → W → Sto → WK → Prop} {pos' : Pos} (i : Nat) (hN : X.N.Nodup) (ho : PIp X op t) (h : SimR X.K t d) (he : XE X e de) (hi : X.N[i]? = some x := by rfl) (hx : Loc X.env.scope x := by first | exact Or.inl rfl | exact Or.inr rfl)
    (hf : X.fn x = true ∨ X.env.scope.names.lookup x = some .local := by first | exact .inl rfl | exact .inr rfl) : XS X (.AugAssign (.Name x pos') op e pos) (dAug i de d) := by
  obtain ⟨t1, p1, s1⟩ := he.ex
  refine ⟨_, ps_aug hN hi hx p1 ho hf, fun r H S s env D' D R E g k => ?_⟩
  obtain ⟨wx, ex, g⟩ := g
  obtain ⟨v, ev, pv⟩ := E.2 i wx ex
  refine ⟨v, ev, ?_⟩
  refine s1 r H S s env _ _ R E g fun r1 H1 S1 y wy e1 R1 q1 d1 => ?_
  exact h r1 H1 S1 v y wx wy _ _ R1 (pv.mono e1) q1 d1 fun r2 H2 S2 z wz e2 R2 q2 d2 => k.nx r2 H2 S2 _ _ (e1.trans e2) R2 ((E.mono (e1.trans e2)).set q2 i) d2
/-! ### while -/
def dWhile (c : DT) (b : DS) : DS := fun D env S => ∃ W : Nat → Slots → Sto → Prop, (∃ m, W m env S) ∧ ∀ m env S, W m env S →
  c env S fun k S1 => if k = true then b { D with nx := fun e s => ∃ m', m' < m ∧ W m' e s, ct := fun e s => ∃ m', m' < m ∧ W m' e s, bk := D.nx } env S1 else D.nx env S1
theorem xs_while {c : Expr} {dc : DT} (hp : PassesOwn (model X.prog X.w) X.A X.env X.xe) (hc : XT X c dc) (hb : XSs X body t) : XS X (.While c body [] pos) (dWhile dc t) := by
  obtain ⟨t0, p0, s0⟩ := hc.ex
  obtain ⟨t1, p1, s1⟩ := hb.ex
  refine ⟨_, ps_while hp p0 p1, fun r H S s env D' D R E d k => ?_⟩
  obtain ⟨W, ⟨m0, w0⟩, turn⟩ := d
  refine ⟨fun m s H' => ∃ r' S' env', Ext X.K r H r' H' ∧ RelS X.K r' H' S' ∧ RepE X.K r' H' s env' ∧ W m env' S', ⟨m0, r, S, env, .refl, R, E, w0⟩, fun m s1' H1 ⟨r1, S1, env1, e1, R1, E1, w1⟩ => ?_⟩
  refine s0 r1 H1 S1 s1' env1 _ _ R1 E1 (turn m env1 S1 w1) fun r2 H2 S2 b e2 R2 d2 => ?_
  cases b with
  | true =>
    rw [if_pos rfl] at d2 ⊢
    refine ⟨fun s H' => ∃ m', m' < m ∧ ∃ r' S' env', Ext X.K r H r' H' ∧ RelS X.K r' H' S' ∧ RepE X.K r' H' s env' ∧ W m' env' S', fun s' H' h => h, ?_⟩
    refine s1 r2 H2 S2 s1' env1 _ _ R2 (E1.mono e2) d2 ⟨?_, fun r3 H3 S3 v w e3 => k.rt r3 H3 S3 v w ((e1.trans e2).trans e3), fun r3 H3 S3 v w e3 => k.nx r3 H3 S3 v w ((e1.trans e2).trans e3), ?_⟩
    · intro r3 H3 S3 s3 env3 e3 R3 E3 ⟨m', l, w3⟩
      exact ⟨m', l, r3, S3, env3, (e1.trans e2).trans e3, R3, E3, w3⟩
    · intro r3 H3 S3 s3 env3 e3 R3 E3 ⟨m', l, w3⟩
      exact ⟨m', l, r3, S3, env3, (e1.trans e2).trans e3, R3, E3, w3⟩
  | false =>
    rw [if_neg Bool.false_ne_true] at d2 ⊢
    exact k.nx r2 H2 S2 s1' env1 (e1.trans e2) R2 (E1.mono e2) d2
/-! ### what a loop walks -/
structure ItOk (K : Fg) (J : It) (its : List W) (still : Sto → Prop) (r0 : List Addr) (H0 : Hp) : Prop where
  go : ∀ r H S i x, Kp K r0 H0 r H → RelS K r H S → still S → its[i]? = some x → J.go i H ∧ ∀ v H', J.yld i H v H' → Ext K r H r H' ∧ RelS K r H' S ∧ Rep K r H' v x
  stop : ∀ r H S i, Kp K r0 H0 r H → RelS K r H S → still S → its.length ≤ i → J.stop i H
abbrev DI := Slots → Sto → (List W → (Sto → Prop) → Sto → Prop) → Prop
def SimI (K : Fg) (t : TI) (d : DI) : Prop := ∀ (r : List Addr) (H : Hp) (S : Sto) (s : L2.St) (env : Slots) (Q : List W → (Sto → Prop) → Sto → Prop) (Q0 : It → Hp → Prop), RelS K r H S → RepE K r H s env → d env S Q →
  (∀ r' H' S' J its still, Ext K r H r' H' → RelS K r' H' S' → ItOk K J its still r' H' → Q its still S' → Q0 J H') → t s H Q0
structure XI (X : Cx) (tg it : Expr) (d : DI) : Prop where
  ex : ∃ t, PI X tg it t ∧ SimI X.K t d
def forW (g : DG) (b : DS) (still : Sto → Prop) : List W → DS
  | [] => fun D env S => still S ∧ D.nx env S
  | x :: r => fun D env S => still S ∧ g x env S fun env2 S2 => b { D with nx := forW g b still r D, ct := forW g b still r D, bk := D.nx } env2 S2
def dFor (di : DI) (g : DG) (b : DS) : DS := fun D env S => di env S fun its still S1 => forW g b still its D env S1
theorem xs_for {iter tg : Expr} {di : DI} {g : DG} (hp : PassesOwn (model X.prog X.w) X.A X.env X.xe) (hc : X.calm = true) (hi : XI X tg iter di) (hg : XG X tg g) (hb : XSs X body t)
    (hs : ∀ x, foldedSetIterable iter X.env x = pure x := by intro _; rfl) : XS X (.For tg iter body [] pos) (dFor di g t) := by
  obtain ⟨t0, p0, s0⟩ := hi.ex
  obtain ⟨t1, p1, s1⟩ := hg.ex
  obtain ⟨t2, p2, s2⟩ := hb.ex
  refine ⟨_, ps_for hp hc p0 p1 p2 hs, fun r H S s env D' D R E d k => ?_⟩
  refine s0 r H S s env _ _ R E d fun r1 H1 S1 J its still e1 R1 ok d1 => ?_
  refine ⟨fun i m s' H' => i + m = its.length ∧ ∃ r' S' env', Ext X.K r1 H1 r' H' ∧ RelS X.K r' H' S' ∧ RepE X.K r' H' s' env' ∧ forW g t still (its.drop i) D' env' S', ⟨its.length, by omega, r1, S1, env, .refl, R1, E.mono e1, d1⟩, ?_⟩
  rintro i m s' H' ⟨hm, r', S', env', e', R', E', d'⟩
  cases hx : its[i]? with
  | none =>
    have hl : its.length ≤ i := List.getElem?_eq_none_iff.mp hx
    rw [List.drop_of_length_le hl] at d'
    obtain ⟨hst, d'⟩ := d'
    exact .inl ⟨ok.stop r' H' S' i e'.toKp R' hst hl, k.nx r' H' S' s' env' (e1.trans e') R' E' d'⟩
  | some x =>
    obtain ⟨hl, ex⟩ := List.getElem?_eq_some_iff.mp hx
    rw [List.drop_eq_getElem_cons hl, ex] at d'
    obtain ⟨hst, d'⟩ := d'
    obtain ⟨go, yl⟩ := ok.go r' H' S' i x e'.toKp R' hst hx
    refine .inr ⟨go, fun s3 H3 => ∃ r3 S3 env3, Ext X.K r1 H1 r3 H3 ∧ RelS X.K r3 H3 S3 ∧ RepE X.K r3 H3 s3 env3 ∧ forW g t still (its.drop (i + 1)) D' env3 S3, fun s3 H3 h3 => ⟨m - 1, by omega, by omega, h3⟩, fun v H3 hy => ?_⟩
    obtain ⟨e3, R3, q3⟩ := yl v H3 hy
    refine s1 r' H3 S' s' env' v x _ _ R3 (E'.mono e3) q3 d' fun r4 H4 S4 s4 env4 e4 R4 E4 d4 => ?_
    have e14 := (e'.trans e3).trans e4
    refine s2 r4 H4 S4 s4 env4 _ _ R4 E4 d4 ⟨?_, fun r5 H5 S5 v w e5 => k.rt r5 H5 S5 v w ((e1.trans e14).trans e5), fun r5 H5 S5 v w e5 => k.nx r5 H5 S5 v w ((e1.trans e14).trans e5), ?_⟩
    · intro r5 H5 S5 s5 env5 e5 R5 E5 q5
      exact ⟨r5, S5, env5, e14.trans e5, R5, E5, q5⟩
    · intro r5 H5 S5 s5 env5 e5 R5 E5 q5
      exact ⟨r5, S5, env5, e14.trans e5, R5, E5, q5⟩
/-- a list, a tuple -/
def tSeqI (K : Fg) (tl : TE) : TI := fun s H R => tl s H fun x H1 => ∃ a, x = .ref a ∧ (((∃ xs, SqL K H1 a xs) ∧ R (Itl K a) H1) ∨ ((∃ xs, SqT K H1 a xs) ∧ R (Itt K a) H1))
theorem pi_seq {tg l : Expr} {tl : TE} (hl : PE X l tl) : PI X tg l (tSeqI X.K tl) := by
  refine ⟨fun pins s σ H R I h => ?_⟩
  refine thn (hl.run pins s σ H _ I h) fun v s1 ⟨x, H1, I1, r1, q1⟩ => ?_
  obtain ⟨a, e, q⟩ := q1
  subst e
  cases r1
  rcases q with ⟨⟨xs, hq⟩, q⟩ | ⟨⟨xs, hq⟩, q⟩
  · obtain ⟨its, rv, p, hz⟩ := I1.list hq
    refine wpAny_pyIter_list p.isList ?_
    refine ⟨s1.heap.objs.size, [s1.heap.objs.size], _, _, H1, rfl, I1.kept (t' := s1.toks) fun b o e => Heap.get?_push_of_some _ e, turn_list a _, ⟨_, Heap.get?_push_size _ rfl, rfl, rfl⟩, fun b hb => ?_, q⟩
    have e : b = s1.heap.objs.size := by simpa using hb
    subst e
    exact I1.fpOk (Nat.le_refl _) (I1.hok.fresh (Nat.le_refl _))
  · obtain ⟨its, rv, p, hz⟩ := I1.tuple hq
    refine wpAny_pyIter_tuple (show s1.heap.IsTuple a its.toArray from p) ?_
    refine ⟨s1.heap.objs.size, [s1.heap.objs.size], _, _, H1, rfl, I1.kept (t' := s1.toks) fun b o e => Heap.get?_push_of_some _ e, turn_tuple a _, ⟨_, Heap.get?_push_size _ rfl, rfl, rfl⟩, fun b hb => ?_, q⟩
    have e : b = s1.heap.objs.size := by simpa using hb
    subst e
    exact I1.fpOk (Nat.le_refl _) (I1.hok.fresh (Nat.le_refl _))
def vSeqI (w : W) (S : Sto) (Q : List W → (Sto → Prop) → Sto → Prop) : Prop := match w with
  | .tup ws => Q ws (fun _ => True) S
  | .lit ws => Q ws (fun _ => True) S
  | .ref i => ∃ ws, S[i]? = some (.lst ws) ∧ Q ws (fun S' => S'[i]? = some (.lst ws)) S
  | _ => False
def iSeq (d : DE) : DI := fun env S Q => d env S fun w S1 => vSeqI w S1 Q
theorem seqAt_ok {K : Fg} {r : List Addr} {H : Hp} {S : Sto} {v : V} {w : W} {Q : List W → (Sto → Prop) → Sto → Prop} (R : RelS K r H S) (p : Rep K r H v w) (h : vSeqI w S Q) :
    ∃ a, v = .ref a ∧ ∃ its still, Q its still S ∧ (((∃ xs, SqL K H a xs) ∧ ItOk K (Itl K a) its still r H) ∨ ((∃ xs, SqT K H a xs) ∧ ItOk K (Itt K a) its still r H)) := by
  cases p with
  | @tup a xs ws q l =>
    refine ⟨a, rfl, _, _, h, .inr ⟨⟨_, q⟩, ⟨fun r' H' S' i x e' R' _ hx => ?_, fun r' H' S' i e' R' _ hl => ⟨_, e'.tup _ _ q, by rw [l.length]; exact hl⟩⟩⟩⟩
    obtain ⟨u, hu, pu⟩ := l.get hx
    refine ⟨⟨_, _, e'.tup _ _ q, hu⟩, fun v H3 hy => ?_⟩
    obtain ⟨rfl, f⟩ := hy
    have := Option.some.inj ((f _ (e'.tup _ _ q)).symm.trans hu)
    subst this
    exact ⟨.refl, R', pu.mono' e'⟩
  | @lit a xs ws q l =>
    refine ⟨a, rfl, _, _, h, .inl ⟨⟨_, q.1⟩, ⟨fun r' H' S' i x e' R' _ hx => ?_, fun r' H' S' i e' R' _ hl => ⟨_, (q.mono e').1, by rw [l.length]; exact hl⟩⟩⟩⟩
    obtain ⟨u, hu, pu⟩ := l.get hx
    refine ⟨⟨_, _, (q.mono e').1, hu⟩, fun v H3 hy => ?_⟩
    obtain ⟨rfl, f⟩ := hy
    have := Option.some.inj ((f _ (q.mono e').1).symm.trans hu)
    subst this
    exact ⟨.refl, R', pu.mono' e'⟩
  | @ref a i q =>
    obtain ⟨ws, hs, h⟩ := h
    obtain ⟨xs, h1, l⟩ := R.obj i a _ q hs
    refine ⟨a, rfl, _, _, h, .inl ⟨⟨_, .of h1⟩, ⟨fun r' H' S' j x e' R' st hx => ?_, fun r' H' S' j e' R' st hl => ?_⟩⟩⟩
    · obtain ⟨ys, h2, l2⟩ := R'.obj i a _ (e'.pre _ _ q) st
      obtain ⟨u, hu, pu⟩ := l2.get hx
      refine ⟨⟨_, _, .of h2, hu⟩, fun v H3 hy => ?_⟩
      obtain ⟨rfl, f⟩ := hy
      have := Option.some.inj ((f _ (.of h2)).symm.trans hu)
      subst this
      exact ⟨.refl, R', pu⟩
    · obtain ⟨ys, h2, l2⟩ := R'.obj i a _ (e'.pre _ _ q) st
      exact ⟨_, .of h2, by rw [l2.length]; exact hl⟩
  | _ => exact h.elim
theorem xi_seq {tg l : Expr} {d : DE} (h : XE X l d) : XI X tg l (iSeq d) := by
  obtain ⟨t, p, s⟩ := h.ex
  refine ⟨_, pi_seq p, fun r H S st env Q Q0 R E g k => ?_⟩
  refine s r H S st env _ _ R E g fun r1 H1 S1 v w e1 R1 q1 d1 => ?_
  obtain ⟨a, rfl, its, still, q, h⟩ := seqAt_ok R1 q1 d1
  refine ⟨a, rfl, ?_⟩
  rcases h with ⟨hx, ok⟩ | ⟨hx, ok⟩
  · exact .inl ⟨hx, k r1 H1 S1 _ its still e1 R1 ok q⟩
  · exact .inr ⟨hx, k r1 H1 S1 _ its still e1 R1 ok q⟩
/-- range -/
def rngW (lo : Int) (n : Nat) : List W := (List.range n).map fun (i : Nat) => W.int (lo + (i : Int))
theorem rng_ok {K : Fg} {lo : Int} {n : Nat} {r : List Addr} {H : Hp} : ItOk K (Itr lo n) (rngW lo n) (fun _ => True) r H := by
  refine ⟨fun r' H' S' i x e R _ hx => ?_, fun r' H' S' i e R _ hl => ?_⟩
  · unfold rngW at hx
    rw [List.getElem?_map] at hx
    by_cases hi : i < n
    · rw [List.getElem?_range hi] at hx
      have e2 : W.int (lo + (i : Int)) = x := Option.some.inj hx
      subst e2
      refine ⟨hi, fun v H3 hy => ?_⟩
      obtain ⟨rfl, rfl⟩ := hy
      exact ⟨.refl, R, .int _⟩
    · rw [List.getElem?_eq_none (by rw [List.length_range]; omega)] at hx
      cases hx
  · unfold rngW at hl
    rw [List.length_map, List.length_range] at hl
    exact hl
def iRng1 (da : DA) : DI := fun env S Q => da env S fun ws S1 => ∃ j : Int, ws = [.int j] ∧ -(2 ^ 62) ≤ j ∧ j < 2 ^ 62 ∧ Q (rngW 0 j.toNat) (fun _ => True) S1
def iRng2 (da : DA) : DI := fun env S Q => da env S fun ws S1 => ∃ i j : Int, ws = [.int i, .int j] ∧ (-(2 ^ 62) ≤ i ∧ i < 2 ^ 62 ∧ -(2 ^ 62) ≤ j ∧ j < 2 ^ 62) ∧ Q (rngW i (j - i).toNat) (fun _ => True) S1
theorem xi_range1 {tg a : Expr} {da : DA} {p : Pos} (hg : Gl X "range") (hm : X.mg "range" = none) (ha : XA X [a] da) (hs : starEach [a] X.env = [(false, eval a X.env)] := by rfl) : XI X tg (.Call (.Name "range" p) [a] [] pos) (iRng1 da) := by
  obtain ⟨t, p, s⟩ := ha.ex
  refine ⟨_, pi_range1 hg hm p hs, fun r H S st env Q Q0 R E g k => ?_⟩
  refine s r H S st env _ _ R E g fun r1 H1 S1 vs ws e1 R1 q1 d1 => ?_
  obtain ⟨j, rfl, h1, h2, q⟩ := d1
  cases q1 with
  | cons a b =>
    cases b
    cases a
    exact ⟨j, rfl, h1, h2, k r1 H1 S1 _ _ _ e1 R1 rng_ok q⟩
theorem xi_range2 {tg a b : Expr} {da : DA} {p : Pos} (hg : Gl X "range") (hm : X.mg "range" = none) (ha : XA X [a, b] da) (hs : starEach [a, b] X.env = [(false, eval a X.env), (false, eval b X.env)] := by rfl) (hs2 : starEach [b] X.env = [(false, eval b X.env)] := by rfl) : XI X tg (.Call (.Name "range" p) [a, b] [] pos) (iRng2 da) := by
  obtain ⟨t, p, s⟩ := ha.ex
  refine ⟨_, pi_range2 hg hm p hs hs2, fun r H S st env Q Q0 R E g k => ?_⟩
  refine s r H S st env _ _ R E g fun r1 H1 S1 vs ws e1 R1 q1 d1 => ?_
  obtain ⟨i, j, rfl, h1, q⟩ := d1
  cases q1 with
  | cons a b =>
    cases b with
    | cons b c =>
      cases c
      cases a
      cases b
      exact ⟨i, j, rfl, h1, k r1 H1 S1 _ _ _ e1 R1 rng_ok q⟩
/-! ### list comprehensions -/
/-- a comprehension's target: it stores its own slots alone -/
def OwnG (t : TG) (vs : List Nat) : Prop := ∀ v s H (Q Q0 : L2.St → Hp → Prop) s0, wipe s vs = wipe s0 vs → t v s H Q → (∀ s2 H2, wipe s2 vs = wipe s0 vs → Q s2 H2 → Q0 s2 H2) → t v s H Q0
def OwnGs (t : TGs) (vs : List Nat) : Prop := ∀ v s H (Q Q0 : L2.St → Hp → Prop) s0, wipe s vs = wipe s0 vs → t v s H Q → (∀ s2 H2, wipe s2 vs = wipe s0 vs → Q s2 H2 → Q0 s2 H2) → t v s H Q0
theorem wipe_set {s : L2.St} {i : Nat} {x : Option V} : ∀ {vs : List Nat}, i ∈ vs → wipe (s.set i x) vs = wipe s vs
  | v :: vs, h => by
    unfold wipe
    by_cases hv : i ∈ vs
    · rw [wipe_set hv]
    · have e : i = v := by
        rcases List.mem_cons.mp h with e | m
        · exact e
        · exact (hv m).elim
      subst e
      rw [wipe_comm hv, List.set_set]
where wipe_comm {s : L2.St} {i : Nat} {x : Option V} : ∀ {vs : List Nat}, i ∉ vs → wipe (s.set i x) vs = (wipe s vs).set i x
  | [], _ => rfl
  | v :: vs, h => by
    unfold wipe
    rw [wipe_comm (fun m => h (List.mem_cons_of_mem _ m)), List.set_comm]
    intro e
    exact h (by rw [e]; exact List.mem_cons_self)
structure XCG (X : Cx) (vs : List Nat) (tg : Expr) (t : TG) (d : DG) : Prop where
  pg : PG X tg t
  sm : SimG X.K t d
  ow : OwnG t vs
structure XCGs (X : Cx) (vs : List Nat) (tg : List Expr) (t : TGs) (d : DGs) : Prop where
  pg : PGs X tg t
  sm : SimGs X.K t d
  ow : OwnGs t vs
theorem xcg_name {x : Str} {vs : List Nat} (i : Nat) (hN : X.N.Nodup) (hm : i ∈ vs := by decide) (hi : X.N[i]? = some x := by rfl) (hx : Loc X.env.scope x := by first | exact Or.inl rfl | exact Or.inr rfl) (hf : X.fn x = true ∨ X.env.scope.names.lookup x = some .local := by first | exact .inl rfl | exact .inr rfl) : XCG X vs (.Name x pos) (gName i) (gNm i) :=
  ⟨pg_name hN hi hx hf, fun r H S s env v w Q Q0 R E p d k => k r H S _ _ .refl R (E.set p i) d, fun v s H Q Q0 s0 e h k => k _ _ ((wipe_set hm).trans e) h⟩
theorem xcgs_nil {vs : List Nat} : XCGs X vs [] gNil gN0 := ⟨pgs_nil, fun r H S s env vs ws Q Q0 R E p d k => by
  obtain ⟨rfl, d⟩ := d
  cases p
  exact ⟨rfl, k r H S _ _ .refl R E d⟩, fun v s H Q Q0 s0 e h k => ⟨h.1, k _ _ e h.2⟩⟩
theorem xcgs_cons {vs : List Nat} {t : TG} {ts : TGs} {g : DG} {gs : DGs} (h1 : XCG X vs e t g) (h2 : XCGs X vs es ts gs) (hs : (assignEach (e :: es) X.env).map (·.2) = assign e X.env :: (assignEach es X.env).map (·.2) := by rfl) : XCGs X vs (e :: es) (gCons t ts) (gC g gs) := by
  obtain ⟨p1, s1, o1⟩ := h1
  obtain ⟨p2, s2, o2⟩ := h2
  refine ⟨pgs_cons p1 p2 hs, fun r H S s env vs ws Q Q0 R E p d k => ?_, fun v s H Q Q0 s0 ew h k => ?_⟩
  · obtain ⟨w, ws', rfl, d⟩ := d
    cases p with
    | cons q l =>
      refine ⟨_, _, rfl, ?_⟩
      refine s1 r H S s env _ _ _ _ R E q d fun r1 H1 S1 s1' env1 e1 R1 E1 d1 => ?_
      exact s2 r1 H1 S1 s1' env1 _ _ _ _ R1 E1 (l.mono e1) d1 fun r2 H2 S2 x y e2 => k r2 H2 S2 x y (e1.trans e2)
  · obtain ⟨x, xs, rfl, h⟩ := h
    exact ⟨x, xs, rfl, o1 x s H _ _ s0 ew h fun s2 H2 e2 h2 => o2 xs s2 H2 _ _ s0 e2 h2 k⟩
theorem xcg_tup {vs : List Nat} {k n : Nat} {ts : TGs} {gs : DGs} (hc : X.calm = true) (h : XCGs X vs es ts gs) (hn : (assignEach es X.env).length = n := by rfl) (hst : (assignEach es X.env).findIdx? (·.1) = none := by rfl) : XCG X vs (.Tuple es k pos) (gTup X.K n ts) (gTp n gs) := by
  obtain ⟨p1, s1, o1⟩ := h
  refine ⟨pg_tup hc p1 hn hst, fun r H S s env v w Q Q0 R E p d k => ?_, fun v s H Q Q0 s0 ew h k => ?_⟩
  · obtain ⟨ws, rfl, hl, d⟩ := d
    cases p with
    | tup q l =>
      exact ⟨_, _, rfl, q, by rw [l.length]; exact hl, s1 r H S s env _ _ _ _ R E l d k⟩
  · obtain ⟨a, xs, rfl, q, hl, h⟩ := h
    exact ⟨a, xs, rfl, q, hl, o1 xs s H _ _ s0 ew h k⟩
theorem wipe_wipe {s : L2.St} {vs : List Nat} : wipe (wipe s vs) vs = wipe s vs := by
  have h : ∀ us : List Nat, (∀ u ∈ us, u ∈ vs) → wipe (wipe s us) vs = wipe s vs := by
    intro us
    induction us with
    | nil => intro _; rfl
    | cons u us ih =>
      intro hu
      show wipe ((wipe s us).set u none) vs = _
      rw [wipe_set (hu u List.mem_cons_self)]
      exact ih fun w hw => hu w (List.mem_cons_of_mem _ hw)
  exact h vs fun _ hu => hu
def compW (g : DG) (tt : DT) (te : DE) (vs : List Nat) (still : Sto → Prop) (env : Slots) (Q : WK) : List W → List W → Sto → Prop
  | [], acc, S => still S ∧ Q (.ref S.length) (S ++ [.lst acc])
  | x :: r, acc, S => still S ∧ g x (wipeW env vs) S fun env2 S2 => tt env2 S2 fun b S3 => if b = true then te env2 S3 fun y S4 => acc.length < sizeLine ∧ compW g tt te vs still env Q r (acc ++ [y]) S4 else compW g tt te vs still env Q r acc S3
def dComp (di : DI) (g : DG) (tt : DT) (te : DE) (vs : List Nat) : DE := fun env S Q => di env S fun its still S1 => compW g tt te vs still env Q its [] S1
theorem sim_comp {K : Fg} {wi : TI} {tg : TG} {tt : TT} {te : TE} {di : DI} {g : DG} {dt : DT} {de : DE} {vs : List Nat} (si : SimI K wi di) (sg : SimG K tg g) (og : OwnG tg vs) (st : SimT K tt dt) (se : Sim K te de) : Sim K (tLc wi tg tt te vs) (dComp di g dt de vs) := by
  intro r H S s env Q Q0 R E d k
  refine si r H S s env _ _ R E d fun r1 H1 S1 J its still e1 R1 ok d1 => ?_
  intro Dl hD
  have nD := R1.notin hD
  refine ⟨fun i m H' => i + m = its.length ∧ ∃ r' S' acc accv, Ext K r1 H1 r' H' ∧ RelS K r' H' S' ∧ Dl ∉ r' ∧ H' Dl = some (.lst accv) ∧ RepL K r' H' accv acc ∧ compW g dt de vs still env Q (its.drop i) acc S',
    ⟨its.length, by omega, r1, S1, [], [], ext_new hD, rel_new R1 hD, nD, upd_same, .nil, d1⟩, ?_⟩
  rintro i m H' ⟨hm, r', S', acc, accv, e', R', n', hl, ra, d'⟩
  cases hx : its[i]? with
  | none =>
    have hle : its.length ≤ i := List.getElem?_eq_none_iff.mp hx
    rw [List.drop_of_length_le hle] at d'
    obtain ⟨hst, d'⟩ := d'
    exact .inl ⟨ok.stop r' H' S' i e'.toKp R' hst hle, k _ H' _ _ _ (e1.trans (e'.join hD)) (R'.join n' hl ra) (rep_mem R') d'⟩
  | some x =>
    obtain ⟨hlt, ex⟩ := List.getElem?_eq_some_iff.mp hx
    rw [List.drop_eq_getElem_cons hlt, ex] at d'
    obtain ⟨hst, d'⟩ := d'
    obtain ⟨go, yl⟩ := ok.go r' H' S' i x e'.toKp R' hst hx
    refine .inr ⟨go, fun H3 => ∃ r' S' acc accv, Ext K r1 H1 r' H3 ∧ RelS K r' H3 S' ∧ Dl ∉ r' ∧ H3 Dl = some (.lst accv) ∧ RepL K r' H3 accv acc ∧ compW g dt de vs still env Q (its.drop (i + 1)) acc S', fun H3 h3 => ⟨m - 1, by omega, by omega, h3⟩, fun v H3 hy => ?_⟩
    obtain ⟨e3, R3, q3⟩ := yl v H3 hy
    have e13 := e'.trans e3
    obtain ⟨n3, hl3⟩ := e3.apart n' hl
    have E3 := (E.mono (e1.trans e13)).wipe vs
    refine og v (wipe s vs) H3 _ _ (wipe s vs) rfl (sg r' H3 S' (wipe s vs) (wipeW env vs) v x _ (fun s4 H4 => ∃ r4 S4 env4, Ext K r' H3 r4 H4 ∧ RelS K r4 H4 S4 ∧ RepE K r4 H4 s4 env4 ∧ dt env4 S4 fun b S5 => if b = true then de env4 S5 fun y S6 => acc.length < sizeLine ∧ compW g dt de vs still env Q (its.drop (i + 1)) (acc ++ [y]) S6 else compW g dt de vs still env Q (its.drop (i + 1)) acc S5) R3 E3 q3 d' fun r4 H4 S4 s4 env4 e4 R4 E4 d4 => ⟨r4, S4, env4, e4, R4, E4, d4⟩) fun s4 H4 hw h4 => ?_
    obtain ⟨r4, S4, env4, e4, R4, E4, d4⟩ := h4
    refine ⟨by rw [hw, wipe_wipe], ?_⟩
    refine st r4 H4 S4 s4 env4 _ _ R4 E4 d4 fun r5 H5 S5 b e5 R5 d5 => ?_
    have e15 := (e13.trans e4).trans e5
    have e35 := e4.trans e5
    obtain ⟨n5, hl5⟩ := e35.apart n3 hl3
    cases b with
    | true =>
      rw [if_pos rfl] at d5 ⊢
      refine se r5 H5 S5 s4 env4 _ _ R5 (E4.mono e5) d5 fun r6 H6 S6 y w e6 R6 q6 d6 => ?_
      obtain ⟨n6, hl6⟩ := e6.apart n5 hl5
      have ra6 := ra.mono ((e3.trans e35).trans e6)
      refine ⟨accv, hl6, by rw [ra6.length]; exact d6.1, r6, S6, acc ++ [w], accv ++ [y], (e15.trans e6).hid hD hl6 trivial, R6.hid n6 hl6 trivial, n6, upd_same, ?_, d6.2⟩
      exact (ra6.app (.one q6)).mono' (Kp.hid hl6 trivial)
    | false =>
      rw [if_neg Bool.false_ne_true] at d5 ⊢
      exact ⟨r5, S5, acc, accv, e15, R5, n5, hl5, ra.mono (e3.trans e35), d5⟩
/-! a reading that hangs on K alone -/
def canE (K : Fg) (d : DE) : TE := fun s H Q0 => ∃ (r : List Addr) (S : Sto) (env : Slots) (Q : WK), RelS K r H S ∧ RepE K r H s env ∧ d env S Q ∧ ∀ r' H' S' v w, Ext K r H r' H' → RelS K r' H' S' → Rep K r' H' v w → Q w S' → Q0 v H'
def canT (K : Fg) (d : DT) : TT := fun s H Q0 => ∃ (r : List Addr) (S : Sto) (env : Slots) (Q : Bool → Sto → Prop), RelS K r H S ∧ RepE K r H s env ∧ d env S Q ∧ ∀ r' H' S' b, Ext K r H r' H' → RelS K r' H' S' → Q b S' → Q0 b H'
theorem canE_sim {K : Fg} {d : DE} : Sim K (canE K d) d := fun r H S s env Q Q0 R E h k => ⟨r, S, env, Q, R, E, h, k⟩
theorem canT_sim {K : Fg} {d : DT} : SimT K (canT K d) d := fun r H S s env Q Q0 R E h k => ⟨r, S, env, Q, R, E, h, k⟩
theorem XE.pe {d : DE} (h : XE X e d) : PE X e (canE X.K d) := by
  obtain ⟨t, p, s⟩ := h.ex
  exact ⟨fun pins st σ H Q I ⟨r, S, env, Q', R, E, hd, k⟩ => p.run pins st σ H Q I (s r H S σ env Q' Q R E hd k)⟩
structure XTs (X : Cx) (ifs : List Expr) (d : DT) : Prop where
  ex : ∃ tt, PTs X ifs tt ∧ SimT X.K tt d
def dYes : DT := fun _ S Q => Q true S
theorem xts_nil : XTs X [] dYes := ⟨_, pts_nil, fun r H S s env Q Q0 R E d k => k r H S true .refl R d⟩
theorem xts_one {c : Expr} {d : DT} (h : XT X c d) : XTs X [c] d := by
  obtain ⟨t, p, s⟩ := h.ex
  exact ⟨_, pts_one p, s⟩
theorem XTs.pt {ifs : List Expr} {d : DT} (h : XTs X ifs d) : PTs X ifs (canT X.K d) := by
  obtain ⟨t, p, s⟩ := h.ex
  exact ⟨fun pins st σ H Q I ⟨r, S, env, Q', R, E, hd, k⟩ => p.run pins st σ H Q I (s r H S σ env Q' Q R E hd k)⟩
end
section
variable {X : Cx} {pos : Pos}
theorem xe_comp {elt tg iter : Expr} {ifs : List Expr} {scope : Scope} {di : DI} {t : TG} {g : DG} {dt : DT} {de : DE} (own : List (Str × Nat)) (hc : X.calm = true) (hN : X.N.Nodup) (hi : XI X tg iter di) (ok : BlkOk X.N X.env.scope scope own)
    (hg : ∀ (s : Shared) (H : Hp) (C : Addr) (cl : List (Str × Addr)) (fp : List Addr), XCG (X.blk s H scope (compEnvC scope cl C X.env) fp) (own.map (·.2)) tg t g)
    (ht : ∀ (s : Shared) (H : Hp) (C : Addr) (cl : List (Str × Addr)) (fp : List Addr), XTs (X.blk s H scope (compEnvC scope cl C X.env) fp) ifs dt)
    (he : ∀ (s : Shared) (H : Hp) (C : Addr) (cl : List (Str × Addr)) (fp : List Addr), XE (X.blk s H scope (compEnvC scope cl C X.env) fp) elt de)
    (hs : ∀ x, foldedSetIterable iter X.env x = pure x := by intro _; rfl) : XE X (.ListComp elt [⟨tg, iter, ifs, 0⟩] scope pos) (dComp di g dt de (own.map (·.2))) := by
  obtain ⟨wi, p, si⟩ := hi.ex
  have g0 := hg {} (fun _ => none) 0 [] []
  exact ⟨_, pe_lc hc hN p ok (fun s H C cl fp => (hg s H C cl fp).pg) (fun s H C cl fp => (ht s H C cl fp).pt) (fun s H C cl fp => (he s H C cl fp).pe) hs, sim_comp si g0.sm g0.ow canT_sim canE_sim⟩
theorem xs_setComp {y : Str} {py spos : Pos} {elt tg iter : Expr} {ifs : List Expr} {scope : Scope} {di : DI} {t : TG} {g : DG} {dt : DT} {de : DE} (i : Nat) (own : List (Str × Nat)) (hc : X.calm = true) (hN : X.N.Nodup) (hi : XI X tg iter di) (ok : BlkOk X.N X.env.scope scope own)
    (hg : ∀ (s : Shared) (H : Hp) (C : Addr) (cl : List (Str × Addr)) (fp : List Addr), XCG (X.blk s H scope (compEnvC scope cl C X.env) fp) (own.map (·.2)) tg t g)
    (ht : ∀ (s : Shared) (H : Hp) (C : Addr) (cl : List (Str × Addr)) (fp : List Addr), XTs (X.blk s H scope (compEnvC scope cl C X.env) fp) ifs dt)
    (he : ∀ (s : Shared) (H : Hp) (C : Addr) (cl : List (Str × Addr)) (fp : List Addr), XE (X.blk s H scope (compEnvC scope cl C X.env) fp) elt de)
    (hsw : swapsWith (.ListComp elt [⟨tg, iter, ifs, 0⟩] scope pos) (some (.Name y py)) spos.line X.env = pure true) (hy : X.N[i]? = some y := by rfl) (hyl : X.env.scope.names.lookup y = some .local := by rfl) (hs : ∀ x, foldedSetIterable iter X.env x = pure x := by intro _; rfl) :
    XS X (.Assign [.Name y py] (.ListComp elt [⟨tg, iter, ifs, 0⟩] scope pos) spos) (dAsg (dComp di g dt de (own.map (·.2))) (gNm i)) := by
  obtain ⟨wi, p, si⟩ := hi.ex
  have g0 := hg {} (fun _ => none) 0 [] []
  exact ⟨_, ps_setLc hc hN hy hyl hsw p ok (fun s H C cl fp => (hg s H C cl fp).pg) (fun s H C cl fp => (ht s H C cl fp).pt) (fun s H C cl fp => (he s H C cl fp).pe) hs, sim_asg (sim_comp si g0.sm g0.ow canT_sim canE_sim) fun r H S s env v w Q Q0 R E p d k => k r H S _ _ .refl R (E.set p i) d⟩
/-! ### defs -/
abbrev DSpec := List W → Sto → WK → Prop
def spOf (K : Fg) (F : DSpec) : Sp := fun vs H Q _ => ∃ (r : List Addr) (S : Sto) (ws : List W) (Q' : WK), RelS K r H S ∧ RepL K r H vs ws ∧ F ws S Q' ∧ ∀ r' H' S' v w, Ext K r H r' H' → RelS K r' H' S' → Rep K r' H' v w → Q' w S' → Q v H'
def dCall (F : DSpec) (da : DA) : DE := fun env S Q => da env S fun ws S1 => F ws S1 Q
theorem sim_call {K : Fg} {F : DSpec} {ta : TA} {da : DA} (sa : SimA K ta da) : Sim K (tCall (spOf K F) [] E0 ta) (dCall F da) := fun r H S s env Q Q0 R E d k =>
  sa r H S s env _ _ R E d fun r1 H1 S1 vs ws e1 R1 q1 d1 => ⟨r1, S1, ws, Q, R1, by rw [List.append_nil]; exact q1, d1, fun r2 H2 S2 v w e2 => k r2 H2 S2 v w (e1.trans e2)⟩
theorem xe_call {x : Str} {p : Pos} {e : Expr} {es : List Expr} {da : DA} {k : Nat} {f : Addr} {fd : FuncData} {ps : List Str} {F : DSpec} (G : FnOk X.prog X.w X.K X.mg X.base CX0 k f fd ps (spOf X.K F)) (hr : Room k X.A) (hg : Gl X x) (hm : X.mg x = some (.ref f)) (hk : PySem.W.keepIn X.K (.ref f) = true) (hb : Binds X.K fd ps [])
    (ha : XA X (e :: es) da) (hdb : (x == ("__debug__" : Str)) = false := by decide) (he : starEach (e :: es) X.env = (false, eval e X.env) :: starEach es X.env := by rfl) (hpl : (backTo pos (starEach es X.env)).any (·.1) = false := by rfl) :
    XE X (.Call (.Name x p) (e :: es) [] pos) (dCall F da) := by
  obtain ⟨t, pa, sa⟩ := ha.ex
  exact ⟨_, pe_call G hr hg hm hk hb .nil pass0 pa hdb he hpl, sim_call sa⟩
theorem xe_call0 {x : Str} {p : Pos} {k : Nat} {f : Addr} {fd : FuncData} {ps : List Str} {F : DSpec} (G : FnOk X.prog X.w X.K X.mg X.base CX0 k f fd ps (spOf X.K F)) (hr : Room k X.A) (hg : Gl X x) (hm : X.mg x = some (.ref f)) (hk : PySem.W.keepIn X.K (.ref f) = true) (hb : Binds X.K fd ps [])
    (hdb : (x == ("__debug__" : Str)) = false := by decide) : XE X (.Call (.Name x p) [] [] pos) (dCall F aNil) :=
  ⟨_, pe_call0 G hr hg hm hk hb .nil pass0 hdb, sim_call fun r H S s env Q Q0 R E d k => k r H S [] [] .refl R .nil d⟩
end
/-- the slots at the entry -/
def startW (n : Nat) (ws : List W) : Slots := ws.map some ++ List.replicate (n - ws.length) none
mutual
def W.bnd (n : Nat) : W → Bool
  | .tup ws => W.bndL n ws
  | .lit ws => W.bndL n ws
  | .ref i => decide (i < n)
  | _ => true
def W.bndL (n : Nat) : List W → Bool
  | [] => true
  | w :: ws => w.bnd n && W.bndL n ws
end
def O.bnd (n : Nat) : O → Bool
  | .lst ws => W.bndL n ws
  | .dk kvs => W.bndL n (kvs.map (·.2))
  | .tk ws => W.bndL n ws
  | .dt kvs => W.bndL n (kvs.map (·.2))
  | .ft ws => W.bndL n ws
  | .nd _ _ _ kvs => W.bndL n (kvs.map (·.2))
/-- every reference leads into the store -/
def Closed (S : Sto) : Prop := ∀ (i : Nat) (o : O), S[i]? = some o → o.bnd S.length = true
section
variable {K : Fg} {r : List Addr} {H : Hp} {S : Sto}
mutual
theorem Rep.bnd (R : RelS K r H S) : ∀ {v : V} {w : W}, Rep K r H v w → w.bnd S.length = true
  | _, _, .non => rfl
  | _, _, .bl b => rfl
  | _, _, .int i => rfl
  | _, _, .str x => rfl
  | _, _, .tup h l => by
    show W.bndL _ _ = true
    exact RepL.bnd R l
  | _, _, .lit h l => by
    show W.bndL _ _ = true
    exact RepL.bnd R l
  | _, _, .ref h => by
    show decide _ = true
    exact decide_eq_true (R.lt h)
  | _, _, .raw v => rfl
theorem RepL.bnd (R : RelS K r H S) : ∀ {vs : List V} {ws : List W}, RepL K r H vs ws → W.bndL S.length ws = true
  | _, _, .nil => rfl
  | _, _, .cons h l => by
    show (W.bnd _ _ && W.bndL _ _) = true
    rw [Rep.bnd R h, RepL.bnd R l]
    rfl
end
theorem RelS.closed (R : RelS K r H S) : Closed S := fun i o h => by
  obtain ⟨a, _, x⟩ := R.at h
  cases o with
  | lst ws =>
    obtain ⟨xs, _, l⟩ := x
    exact l.bnd R
  | dk kvs =>
    obtain ⟨xs, _, _, l⟩ := x
    exact l.bnd R
  | tk ws =>
    obtain ⟨xs, _, l⟩ := x
    exact l.bnd R
  | dt kvs =>
    obtain ⟨xs, _, _, l⟩ := x
    exact l.bnd R
  | ft ws =>
    obtain ⟨ob, xs, _, _, l⟩ := x
    exact l.bnd R
  | nd P w z kvs =>
    obtain ⟨es, _, _, _, _, _, _, _, l⟩ := x
    exact l.bnd R
end
mutual
def W.ren (f : List Nat) : W → W
  | .tup ws => .tup (W.renL f ws)
  | .lit ws => .lit (W.renL f ws)
  | .ref i => .ref (f.getD i 0)
  | w => w
def W.renL (f : List Nat) : List W → List W
  | [] => []
  | w :: ws => w.ren f :: W.renL f ws
end
def O.ren (f : List Nat) : O → O
  | .lst ws => .lst (W.renL f ws)
  | .dk kvs => .dk (kvs.map fun kv => (kv.1, kv.2.ren f))
  | .tk ws => .tk (W.renL f ws)
  | .dt kvs => .dt (kvs.map fun kv => (kv.1, kv.2.ren f))
  | .ft ws => .ft (W.renL f ws)
  | .nd P w z kvs => .nd P w z (kvs.map fun kv => (kv.1, kv.2.ren f))
theorem renL_map (f : List Nat) : ∀ ws : List W, W.renL f ws = ws.map (W.ren f)
  | [] => rfl
  | w :: ws => congrArg _ (renL_map f ws)
section
variable {K : Fg} {r : List Addr} {H : Hp} {S : Sto} {f : List Nat}
def pickA (f : List Nat) (r : List Addr) : List Addr := f.map fun i => r.getD i 0
theorem pickA_get (hf : ∀ j ∈ f, j < r.length) {i j : Nat} (h : f[i]? = some j) : (pickA f r)[i]? = r[j]? := by
  have hj := hf j (List.mem_of_getElem? h)
  unfold pickA
  rw [List.getElem?_map, h]
  show some (r.getD j 0) = _
  rw [List.getD_eq_getElem?_getD, List.getElem?_eq_getElem hj]
  rfl
mutual
theorem Rep.unren (hf : ∀ j ∈ f, j < r.length) : ∀ (w : W) {v : V}, Rep K r H v (w.ren f) → w.bnd f.length = true → Rep K (pickA f r) H v w
  | .non, _, h, _ => by cases h; exact .non
  | .bl b, _, h, _ => by cases h; exact .bl b
  | .int i, _, h, _ => by cases h; exact .int i
  | .str x, _, h, _ => by cases h; exact .str x
  | .raw v, _, h, _ => by cases h; exact .raw v
  | .ref i, _, h, b => by
    have hi : i < f.length := of_decide_eq_true b
    have h' : Rep K r H _ (.ref (f.getD i 0)) := h
    rw [List.getD_eq_getElem?_getD, List.getElem?_eq_getElem hi] at h'
    cases h' with
    | ref q => exact .ref (by rw [pickA_get hf (List.getElem?_eq_getElem hi)]; exact q)
  | .tup ws, _, h, b => by
    cases h with
    | tup q l => exact .tup q (RepL.unren hf ws l b)
  | .lit ws, _, h, b => by
    cases h with
    | lit q l => exact .lit q (RepL.unren hf ws l b)
theorem RepL.unren (hf : ∀ j ∈ f, j < r.length) : ∀ (ws : List W) {vs : List V}, RepL K r H vs (W.renL f ws) → W.bndL f.length ws = true → RepL K (pickA f r) H vs ws
  | [], _, h, _ => by cases h; exact .nil
  | w :: ws, _, h, b => by
    have b' : (W.bnd f.length w && W.bndL f.length ws) = true := b
    rw [Bool.and_eq_true] at b'
    cases h with
    | cons q l => exact .cons (Rep.unren hf w q b'.1) (RepL.unren hf ws l b'.2)
end
mutual
theorem W.ren_id {n : Nat} : ∀ w : W, w.bnd n = true → w.ren (List.range n) = w
  | .non, _ => rfl
  | .bl b, _ => rfl
  | .int i, _ => rfl
  | .str x, _ => rfl
  | .raw v, _ => rfl
  | .ref i, b => by
    have hi : i < n := of_decide_eq_true b
    show W.ref ((List.range n).getD i 0) = _
    rw [List.getD_eq_getElem?_getD, List.getElem?_range hi]
    rfl
  | .tup ws, b => by
    show W.tup (W.renL _ ws) = _
    rw [W.renL_id ws b]
  | .lit ws, b => by
    show W.lit (W.renL _ ws) = _
    rw [W.renL_id ws b]
theorem W.renL_id {n : Nat} : ∀ ws : List W, W.bndL n ws = true → W.renL (List.range n) ws = ws
  | [], _ => rfl
  | w :: ws, b => by
    have b' : (W.bnd n w && W.bndL n ws) = true := b
    rw [Bool.and_eq_true] at b'
    show w.ren _ :: W.renL _ ws = _
    rw [W.ren_id w b'.1, W.renL_id ws b'.2]
end
theorem O.ren_id {n : Nat} : ∀ o : O, o.bnd n = true → o.ren (List.range n) = o
  | .lst ws, b => by
    show O.lst _ = _
    rw [W.renL_id ws b]
  | .dk kvs, b => by
    have go : ∀ kvs : List (Key × W), W.bndL n (kvs.map (·.2)) = true → (kvs.map fun kv => (kv.1, kv.2.ren (List.range n))) = kvs := by
      intro kvs
      induction kvs with
      | nil => intro _; rfl
      | cons kv r ih =>
        intro b
        have b' : (W.bnd n kv.2 && W.bndL n (r.map (·.2))) = true := b
        rw [Bool.and_eq_true] at b'
        rw [List.map_cons, ih b'.2, W.ren_id _ b'.1]
    show O.dk _ = _
    rw [go kvs b]
  | .tk ws, b => by
    show O.tk _ = _
    rw [W.renL_id ws b]
  | .ft ws, b => by
    show O.ft _ = _
    rw [W.renL_id ws b]
  | .nd P w z kvs, b => by
    have go : ∀ kvs : List (W × W), W.bndL n (kvs.map (·.2)) = true → (kvs.map fun kv => (kv.1, kv.2.ren (List.range n))) = kvs := by
      intro kvs
      induction kvs with
      | nil => intro _; rfl
      | cons kv r ih =>
        intro b
        have b' : (W.bnd n kv.2 && W.bndL n (r.map (·.2))) = true := b
        rw [Bool.and_eq_true] at b'
        rw [List.map_cons, ih b'.2, W.ren_id _ b'.1]
    show O.nd P w z _ = _
    rw [go kvs b]
  | .dt kvs, b => by
    have go : ∀ kvs : List (List Key × W), W.bndL n (kvs.map (·.2)) = true → (kvs.map fun kv => (kv.1, kv.2.ren (List.range n))) = kvs := by
      intro kvs
      induction kvs with
      | nil => intro _; rfl
      | cons kv r ih =>
        intro b
        have b' : (W.bnd n kv.2 && W.bndL n (r.map (·.2))) = true := b
        rw [Bool.and_eq_true] at b'
        rw [List.map_cons, ih b'.2, W.ren_id _ b'.1]
    show O.dt _ = _
    rw [go kvs b]
end
/-- what a def hands back: the store laid anew by f (place i comes from f[i]); what is not named is forgotten -/
def Ends0 (n : Nat) (Q : WK) : WK := fun w S' => ∃ (f : List Nat) (S0 : Sto) (w0 : W), f.length = S0.length ∧ (∀ i, i < n → f[i]? = some i) ∧ f.Nodup ∧
  (∀ (i : Nat) (o : O), S0[i]? = some o → o.bnd f.length = true ∧ ∃ j, f[i]? = some j ∧ S'[j]? = some (o.ren f)) ∧ w = w0.ren f ∧ w0.bnd f.length = true ∧ Q w0 S0
theorem Ends0.drop {n : Nat} {Q : WK} {w : W} {S0 : Sto} (T : Sto) (hn : n ≤ S0.length) (c : Closed S0) (hb : w.bnd S0.length = true) (q : Q w S0) : Ends0 n Q w (S0 ++ T) := by
  refine ⟨List.range S0.length, S0, w, List.length_range, fun i hi => List.getElem?_range (by omega), List.nodup_range, fun i o h => ?_, (W.ren_id w hb).symm, by rw [List.length_range]; exact hb, q⟩
  have hi : i < S0.length := (List.getElem?_eq_some_iff.mp h).1
  have b := c i o h
  exact ⟨by rw [List.length_range]; exact b, i, List.getElem?_range hi, by rw [List.getElem?_append_left hi, h, O.ren_id o b]⟩
theorem Ends0.keep {n : Nat} {Q : WK} {w : W} {S0 : Sto} (hn : n ≤ S0.length) (c : Closed S0) (hb : w.bnd S0.length = true) (q : Q w S0) : Ends0 n Q w S0 := by
  have h := Ends0.drop (n := n) (Q := Q) (w := w) (S0 := S0) [] hn c hb q
  rw [List.append_nil] at h
  exact h
section
variable {P : Program} {w : World} {K : Fg} {mg : Str → Option Value} {base : Heap}
theorem ends_sim {r r' : List Addr} {H H' : Hp} {S S' : Sto} {Q : WK} {w : W} {v : V} (R : RelS K r H S) (e : Ext K r H r' H') (R' : RelS K r' H' S') (p : Rep K r' H' v w) (h : Ends0 S.length Q w S') :
    ∃ r0 S0 w0, Ext K r H r0 H' ∧ RelS K r0 H' S0 ∧ Rep K r0 H' v w0 ∧ Q w0 S0 := by
  obtain ⟨f, S0, w0, hl, hn, nd, ho, rfl, hb, q⟩ := h
  have hf : ∀ j ∈ f, j < r'.length := fun j hj => by
    obtain ⟨i, hi, e1⟩ := List.mem_iff_getElem.mp hj
    obtain ⟨_, j', h1, h2⟩ := ho i S0[i] (List.getElem?_eq_getElem (by rw [← hl]; exact hi))
    rw [List.getElem?_eq_getElem hi, e1] at h1
    cases h1
    rw [R'.len]
    exact (List.getElem?_eq_some_iff.mp h2).1
  refine ⟨pickA f r', S0, w0, ⟨⟨fun i a h => ?_, e.tup, e.frz⟩, e.oth, fun b hb' n' => ?_⟩, ⟨by rw [pickA, List.length_map]; exact hl, ?_, fun i a o ha hs => ?_⟩, Rep.unren hf w0 p hb, q⟩
  · rw [pickA_get hf (hn i (R.lt h))]
    exact e.pre i a h
  · obtain ⟨j, hj, e1⟩ := List.mem_map.mp hb'
    have lj := hf j hj
    rw [List.getD_eq_getElem?_getD, List.getElem?_eq_getElem lj] at e1
    have e2 : r'[j] = b := e1
    exact e.new b (by rw [← e2]; exact List.getElem_mem lj) n'
  · refine (List.pairwise_map).mpr ?_
    refine List.Pairwise.imp_of_mem (fun {a b} ha hb' hne he => ?_) nd
    have la := hf a ha
    have lb := hf b hb'
    rw [List.getD_eq_getElem?_getD, List.getD_eq_getElem?_getD, List.getElem?_eq_getElem la, List.getElem?_eq_getElem lb] at he
    exact hne ((List.getElem_inj R'.nd).mp (show r'[a] = r'[b] from he))
  · obtain ⟨b, j, h1, h2⟩ := ho i o hs
    rw [pickA_get hf h1] at ha
    have x := R'.obj j a _ ha h2
    cases o with
    | lst ws =>
      obtain ⟨xs, h3, l⟩ := x
      exact ⟨xs, h3, RepL.unren hf ws l b⟩
    | dk kvs =>
      obtain ⟨xs, h3, h4, l⟩ := x
      have b' : W.bndL f.length (kvs.map (·.2)) = true := b
      refine ⟨xs, h3, ?_, RepL.unren hf (kvs.map (·.2)) ?_ b'⟩
      · rw [h4, List.map_map]
        rfl
      · rw [renL_map, List.map_map]
        rw [List.map_map] at l
        exact l
    | tk ws =>
      obtain ⟨xs, h3, l⟩ := x
      exact ⟨xs, h3, RepL.unren hf ws l b⟩
    | ft ws =>
      obtain ⟨ob, xs, h3, h4, l⟩ := x
      exact ⟨ob, xs, h3, h4, RepL.unren hf ws l b⟩
    | nd P w z kvs =>
      obtain ⟨es, h3, h4, h5, h6, h7, h8, h9, l⟩ := x
      have b' : W.bndL f.length (kvs.map (·.2)) = true := b
      refine ⟨es, h3, h4, h5, ?_, h7, fun kv hkv => ?_, ?_, RepL.unren hf (kvs.map (·.2)) ?_ b'⟩
      · rw [h6, List.map_map]
        rfl
      · have z := h8 (kv.1, kv.2.ren f) (List.mem_map.mpr ⟨kv, hkv, rfl⟩)
        exact z
      · rw [List.map_map] at h9
        exact h9
      · rw [renL_map, List.map_map]
        rw [List.map_map] at l
        exact l
    | dt kvs =>
      obtain ⟨xs, h3, h4, l⟩ := x
      have b' : W.bndL f.length (kvs.map (·.2)) = true := b
      refine ⟨xs, h3, ?_, RepL.unren hf (kvs.map (·.2)) ?_ b'⟩
      · rw [h4, List.map_map]
        rfl
      · rw [renL_map, List.map_map]
        rw [List.map_map] at l
        exact l
theorem fn_d {x qual : Str} {st : Stmt} {f : Addr} {fd : FuncData} {N ps : List Str} {k : Nat} {F : DSpec} (Fu : Fun K x qual st f fd) (Sc : FnScope N ps (defScope st)) (len : ∀ ws S Q, F ws S Q → ws.length = ps.length)
    (hb : ∀ (cdv : Value) (A : Around) (outer : List PySem.Env) (s : Shared) (H : Hp) (E : XK), Room k (A.deeper (envOfC qual (defScope st) s.heap.objs.size f cdv)) →
      ∃ d, XSs (cxOf CX0 P w K mg base N qual (defScope st) f cdv A outer s H E).nox (defBody st) d ∧
        ∀ ws S Q, Closed S → F ws S Q → d { nx := fun _ S' => Ends0 S.length Q .non S', rt := Ends0 S.length Q, bk := fun _ _ => False, ct := fun _ _ => False } (startW N.length ws) S) :
    FnOk P w K mg base CX0 (k + 1) f fd ps (spOf K F) := by
  refine Fu.ok Sc (fun vs H Q E h => ?_) (fun cdv A outer s H vs Q E hr h => ?_)
  · obtain ⟨r, S, ws, Q', R, l, hF, _⟩ := h
    rw [l.length]
    exact len ws S Q' hF
  · obtain ⟨d, hx, hd⟩ := hb cdv A outer s H E hr
    obtain ⟨t, pt, st⟩ := hx.ex
    obtain ⟨r, S, ws, Q', R, l, hF, k⟩ := h
    refine ⟨t, pt, ?_⟩
    refine st r H S _ _ _ _ R (RepE.start l) (hd ws S Q' R.closed hF) ⟨?_, ?_, fun _ _ _ _ _ _ _ _ h => h, fun _ _ _ _ _ _ _ _ h => h⟩
    · intro r' H' S' s' env' e' R' E' h
      obtain ⟨r0, S0, w0, e0, R0, p0, q⟩ := ends_sim R e' R' .non h
      exact k r0 H' S0 _ w0 e0 R0 p0 q
    · intro r' H' S' v w e' R' p' h
      obtain ⟨r0, S0, w0, e0, R0, p0, q⟩ := ends_sim R e' R' p' h
      exact k r0 H' S0 _ w0 e0 R0 p0 q
end
end DL

/-! DLd: operators, built-ins, methods by values. -/
namespace DL
open PySem PySem.Spec PyProof.Rows L2

/-! ### sequences, data -/
def seqOf (S : Sto) : W → Option (List W)
  | .tup ws => some ws
  | .lit ws => some ws
  | .ref i => match S[i]? with
    | some (.lst ws) => some ws
    | _ => none
  | _ => none
mutual
def W.pure : W → Bool
  | .tup ws => W.pureL ws
  | .lit ws => W.pureL ws
  | .ref _ => false
  | .raw _ => false
  | _ => true
def W.pureL : List W → Bool
  | [] => true
  | w :: ws => w.pure && W.pureL ws
end
mutual
def datW : W → PyData
  | .non => .none
  | .bl b => .bool b
  | .int i => .int i
  | .str x => .str x
  | .tup ws => .tuple (datWs ws)
  | .lit ws => .list (datWs ws)
  | .ref _ => .none
  | .raw _ => .none
def datWs : List W → List PyData
  | [] => []
  | w :: ws => datW w :: datWs ws
end
def dataS (S : Sto) (w : W) : Option PyData := match w with
  | .ref i => match S[i]? with
    | some (.lst ws) => if W.pureL ws then some (.list (datWs ws)) else none
    | _ => none
  | w => if w.pure then some (datW w) else none
/-- == of scalars -/
def scW : W → W → Option Bool
  | .int i, .int j => some (decide (i = j))
  | .str a, .str b => some (decide (a = b))
  | .bl a, .bl b => some (decide (a = b))
  | .non, .non => some true
  | .non, .int _ => some false | .int _, .non => some false | .non, .bl _ => some false | .bl _, .non => some false
  | .non, .str _ => some false | .str _, .non => some false | .int _, .str _ => some false | .str _, .int _ => some false
  | .bl _, .str _ => some false | .str _, .bl _ => some false
  | _, _ => none
def flW : W → Bool
  | .non => true | .bl _ => true | .int _ => true | .str _ => true | _ => false
def eqW : W → W → Bool
  | .non, .non => true
  | .bl a, .bl b => a == b
  | .bl a, .int b => (if a then 1 else 0) == b
  | .int a, .bl b => a == (if b then 1 else 0)
  | .int a, .int b => a == b
  | .str a, .str b => a == b
  | _, _ => false
def inW (x : W) (ws : List W) : Bool := ws.any fun y => eqW y x
section
variable {K : Fg} {r : List Addr} {H : Hp} {S : Sto}
theorem relO_there {i : Nat} {a : Addr} (R : RelS K r H S) (ha : r[i]? = some a) : ∃ ob, S[i]? = some ob ∧ RelO K r H a ob := by
  have l := R.lt ha
  exact ⟨S[i], List.getElem?_eq_getElem l, R.obj i a _ ha (List.getElem?_eq_getElem l)⟩
theorem seqOf_sim {v : V} {w : W} {ws : List W} (R : RelS K r H S) (p : Rep K r H v w) (h : seqOf S w = some ws) : ∃ a xs, v = .ref a ∧ (SqL K H a xs ∨ SqT K H a xs) ∧ RepL K r H xs ws := by
  cases p with
  | tup q l =>
    cases Option.some.inj h
    exact ⟨_, _, rfl, .inr q, l⟩
  | lit q l =>
    cases Option.some.inj h
    exact ⟨_, _, rfl, .inl q.1, l⟩
  | @ref a i q =>
    obtain ⟨o, ho, x⟩ := relO_there R q
    have e : seqOf S (.ref i) = some ws := h
    simp only [seqOf, ho] at e
    cases o with
    | lst us =>
      cases Option.some.inj e
      obtain ⟨xs, h1, l⟩ := x
      exact ⟨_, _, rfl, .inl (.of h1), l⟩
    | dk us => cases e
    | tk us => cases e
    | dt us => cases e
    | ft us => cases e
    | nd P w z us => cases e
  | _ => cases h
theorem seqOf_ref {i : Nat} {ws : List W} (h : S[i]? = some (.lst ws)) : seqOf S (.ref i) = some ws := by simp only [seqOf, h]
theorem repL_strs : ∀ {vs : List V} {ys : List Str}, RepL K r H vs (ys.map W.str) → vs = ys.map V.str
  | _, [], .nil => rfl
  | _, y :: ys, .cons h l => by
    cases h
    rw [repL_strs l]
    rfl
theorem repL_ints : ∀ {vs : List V} {ys : List Int}, RepL K r H vs (ys.map W.int) → vs = ys.map V.int
  | _, [], .nil => rfl
  | _, y :: ys, .cons h l => by
    cases h
    rw [repL_ints l]
    rfl
theorem repL_bls : ∀ {vs : List V} {ys : List Bool}, RepL K r H vs (ys.map W.bl) → vs = ys.map V.bl
  | _, [], .nil => rfl
  | _, y :: ys, .cons h l => by
    cases h
    rw [repL_bls l]
    rfl
theorem repL_of_ints : ∀ (ys : List Int), RepL K r H (ys.map V.int) (ys.map W.int)
  | [] => .nil
  | y :: ys => .cons (.int y) (repL_of_ints ys)
theorem repL_of_strs : ∀ (ys : List Str), RepL K r H (ys.map V.str) (ys.map W.str)
  | [] => .nil
  | y :: ys => .cons (.str y) (repL_of_strs ys)
mutual
theorem dp_of : ∀ {v : V} {w : W}, Rep K r H v w → w.pure = true → Dp K H v (datW w)
  | _, _, .non, _ => .non
  | _, _, .bl b, _ => .bl b
  | _, _, .int i, _ => .int i
  | _, _, .str x, _ => .str x
  | _, _, .tup h l, b => .tup h (dpL_of l b)
  | _, _, .lit h l, b => .lst h.1 (dpL_of l b)
  | _, _, .ref h, b => Bool.noConfusion (show false = true from b)
  | _, _, .raw v, b => Bool.noConfusion (show false = true from b)
theorem dpL_of : ∀ {vs : List V} {ws : List W}, RepL K r H vs ws → W.pureL ws = true → DpAll K H vs (datWs ws)
  | _, _, .nil, _ => .nil
  | _, _, .cons h l, b => by
    have b' : (W.pure _ && W.pureL _) = true := b
    rw [Bool.and_eq_true] at b'
    exact .cons (dp_of h b'.1) (dpL_of l b'.2)
end
theorem dataS_sim {v : V} {w : W} {d : PyData} (R : RelS K r H S) (p : Rep K r H v w) (h : dataS S w = some d) : Dp K H v d := by
  cases p with
  | @ref a i q =>
    obtain ⟨o, ho, x⟩ := relO_there R q
    have e : dataS S (.ref i) = some d := h
    simp only [dataS, ho] at e
    cases o with
    | lst us =>
      simp only at e
      split at e
      · rename_i hp
        cases Option.some.inj e
        obtain ⟨xs, h1, l⟩ := x
        exact .lst (.of h1) (dpL_of l hp)
      · cases e
    | dk us => cases e
    | tk us => cases e
    | dt us => cases e
    | ft us => cases e
    | nd P w z us => cases e
  | non => cases Option.some.inj h; exact .non
  | bl b => cases Option.some.inj h; exact .bl b
  | int b => cases Option.some.inj h; exact .int b
  | str b => cases Option.some.inj h; exact .str b
  | @tup a xs ws q l =>
    have e : (if (W.tup ws).pure = true then some (datW (.tup ws)) else none) = some d := h
    split at e
    · rename_i hp
      cases Option.some.inj e
      exact dp_of (.tup q l) hp
    · cases e
  | @lit a xs ws q l =>
    have e : (if (W.lit ws).pure = true then some (datW (.lit ws)) else none) = some d := h
    split at e
    · rename_i hp
      cases Option.some.inj e
      exact dp_of (.lit q l) hp
    · cases e
  | raw v => cases h
theorem flat_sim {v : V} {w : W} (p : Rep K r H v w) (h : flW w = true) : flatV v = true := by
  cases p <;> first | rfl | exact Bool.noConfusion (show false = true from h)
theorem eqW_sim {v u : V} {w z : W} (p : Rep K r H v w) (q : Rep K r H u z) (h : flW w = true) (h' : flW z = true) : eqV v u = eqW w z := by
  cases p <;> first
    | (cases q <;> first | rfl | exact Bool.noConfusion (show false = true from h'))
    | exact Bool.noConfusion (show false = true from h)
theorem flat_all {vs : List V} {ws : List W} (l : RepL K r H vs ws) (h : ws.all flW = true) : vs.all flatV = true := by
  induction vs generalizing ws with
  | nil => rfl
  | cons v vs ih =>
    cases l with
    | cons p l =>
      rw [List.all_cons, Bool.and_eq_true] at h ⊢
      exact ⟨flat_sim p h.1, ih l h.2⟩
theorem inW_sim {v : V} {w : W} {vs : List V} {ws : List W} (p : Rep K r H v w) (l : RepL K r H vs ws) (h : flW w = true) (hs : ws.all flW = true) : inV v vs = inW w ws := by
  induction vs generalizing ws with
  | nil => cases l; rfl
  | cons u vs ih =>
    cases l with
    | cons q l =>
      rw [List.all_cons, Bool.and_eq_true] at hs
      show (eqV u v || inV v vs) = (eqW _ w || inW w _)
      rw [eqW_sim q p hs.1 h, ih l hs.2]
theorem atI_sim {vs : List V} {ws : List W} {i : Int} {w : W} (l : RepL K r H vs ws) (h : atI ws i = some w) : ∃ v, atI vs i = some v ∧ Rep K r H v w := by
  have hl := l.length
  unfold atI at h ⊢
  rw [hl]
  cases hj : ixN ws.length i with
  | none =>
    rw [hj] at h
    cases h
  | some j =>
    rw [hj] at h
    exact l.get h
def cutW (ws : List W) (lo hi : Option Int) : List W := (ws.drop (HT.sIx ws.length 0 lo)).take (HT.sIx ws.length ws.length hi - HT.sIx ws.length 0 lo)
theorem cut_sim {vs : List V} {ws : List W} (l : RepL K r H vs ws) (lo hi : Option Int) : RepL K r H (cutV vs lo hi) (cutW ws lo hi) := by
  unfold cutV cutW
  rw [l.length]
  exact (l.drop _).take _
end
theorem cutW_whole {ws : List W} {lo hi : Option Int} (h : HT.sIx ws.length 0 lo = 0 ∧ HT.sIx ws.length ws.length hi = ws.length) : cutW ws lo hi = ws := by
  unfold cutW
  rw [h.1, h.2]
  simp

/-! ### operators -/
section
variable {X : Cx}
def vAdd (x y : W) (S : Sto) (Q : WK) : Prop := match x, y with
  | .int i, .int j => Q (.int (i + j)) S
  | .str a, .str b => a.length + b.length ≤ sizeLine ∧ Q (.str (a ++ b)) S
  | .tup a, .tup b => a.length + b.length ≤ sizeLine ∧ Q (.tup (a ++ b)) S
  | .ref i, .ref j => ∃ a b, S[i]? = some (.lst a) ∧ S[j]? = some (.lst b) ∧ a.length + b.length ≤ sizeLine ∧ Q (.ref S.length) (S ++ [.lst (a ++ b)])
  | _, _ => False
def rAddAll (K : Fg) : R2 := fun x y H Q => (∃ i j, x = .int i ∧ y = .int j ∧ Q (.int (i + j)) H) ∨ ((∃ i j, x = .str i ∧ y = .str j ∧ i.length + j.length ≤ sizeLine ∧ Q (.str (i ++ j)) H) ∨ (rCatA K x y H Q ∨ rCat x y H Q))
theorem op_addAll : OpR X (binaryOp .Add) (rAddAll X.K) := OpR.or op_add (OpR.or op_add_str (OpR.or op_catA op_cat))
theorem add_sim {K : Fg} : SimR K (rAddAll K) vAdd := by
  intro r H S x y wx wy Q Q0 R px py d k
  cases px <;> cases py <;> try exact d.elim
  · exact .inl ⟨_, _, rfl, rfl, k r H S _ _ .refl R (.int _) d⟩
  · exact .inr (.inl ⟨_, _, rfl, rfl, d.1, k r H S _ _ .refl R (.str _) d.2⟩)
  · rename_i a xs ws h l b ys zs h2 l2
    have e1 := l.length
    have e2 := l2.length
    refine .inr (.inr (.inl ⟨_, _, xs, ys, rfl, rfl, h, h2, by rw [e1, e2]; exact d.1, fun e => ?_, fun e e' => ?_, fun e e' p hp => ?_⟩))
    · subst e
      cases l
      exact k r H S _ _ .refl R (.tup h2 l2) d.2
    · subst e'
      cases l2
      have d2 := d.2
      rw [List.append_nil] at d2
      exact k r H S _ _ .refl R (.tup h l) d2
    · exact k r _ S _ _ (ext_new hp) (rel_new R hp) (rep_tup hp (l.app l2)) d.2
  · rename_i a i h b j h2
    obtain ⟨as, bs, ha, hb, hz, q⟩ := d
    obtain ⟨xs, h1, l1⟩ := R.obj i _ _ h ha
    obtain ⟨ys, h3, l3⟩ := R.obj j _ _ h2 hb
    refine .inr (.inr (.inr ⟨_, _, xs, ys, rfl, rfl, h1, h3, by rw [l1.length, l3.length]; exact hz, fun p hp => ?_⟩))
    exact k _ _ _ _ _ (ext_mem hp) (new_lst R hp (l1.app l3)) (rep_mem R) q
/-- ints in, an int out -/
def vI2 (C : Int → Int → Prop) (g : Int → Int → W) (x y : W) (S : Sto) (Q : WK) : Prop := match x, y with
  | .int i, .int j => C i j ∧ Q (g i j) S
  | _, _ => False
theorem i2_sim {K : Fg} {C : Int → Int → Prop} {g : Int → Int → V} {g' : Int → Int → W} (h : ∀ r H i j, Rep K r H (g i j) (g' i j)) : SimR K (rI C g) (vI2 C g') := by
  intro r H S x y wx wy Q Q0 R px py d k
  cases px <;> cases py <;> try exact d.elim
  exact ⟨_, _, rfl, rfl, d.1, k r H S _ _ .refl R (h _ _ _ _) d.2⟩
def vI20 (g : Int → Int → W) (x y : W) (S : Sto) (Q : WK) : Prop := match x, y with
  | .int i, .int j => Q (g i j) S
  | _, _ => False
theorem i20_sim {K : Fg} {g : Int → Int → V} {g' : Int → Int → W} (h : ∀ r H i j, Rep K r H (g i j) (g' i j)) : SimR K (rI0 g) (vI20 g') := by
  intro r H S x y wx wy Q Q0 R px py d k
  cases px <;> cases py <;> try exact d.elim
  exact ⟨_, _, rfl, rfl, k r H S _ _ .refl R (h _ _ _ _) d⟩
abbrev vSub := vI20 fun i j => .int (i - j)
abbrev vMul := vI2 (fun i j => CMul i j ∨ CMulW i j) fun i j => .int (i * j)
abbrev vDiv := vI2 CDivW fun i j => .int (i / j)
abbrev vMod := vI2 (fun _ j => 0 < j) fun i j => .int (i % j)
abbrev vPow := vI2 CPow fun i j => .int (i ^ j.toNat)
theorem op_mulA : OpR X (binaryOp .Mult) (rI (fun i j => CMul i j ∨ CMulW i j) fun i j => .int (i * j)) := by
  intro pins s σ H x y v u Q I rx ry h
  obtain ⟨i, j, rfl, rfl, hc, q⟩ := h
  rcases hc with hc | hc
  · exact op_mul pins s σ H _ _ v u Q I rx ry ⟨i, j, rfl, rfl, hc, q⟩
  · exact op_mulW pins s σ H _ _ v u Q I rx ry ⟨i, j, rfl, rfl, hc, q⟩
variable {a b e o : Expr} {es : List Expr} {da db de d0 : DE} {dA : DA} {pos : Pos}
theorem x_add (ha : XE X a da) (hb : XE X b db) : XE X (.BinOp a .Add b pos) (dOp vAdd da db) := xe_op op_addAll add_sim ha hb
theorem x_sub (ha : XE X a da) (hb : XE X b db) : XE X (.BinOp a .Sub b pos) (dOp vSub da db) := xe_op op_sub (i20_sim fun _ _ _ _ => .int _) ha hb
theorem x_mul (ha : XE X a da) (hb : XE X b db) : XE X (.BinOp a .Mult b pos) (dOp vMul da db) := xe_op op_mulA (i2_sim fun _ _ _ _ => .int _) ha hb
theorem x_div (ha : XE X a da) (hb : XE X b db) : XE X (.BinOp a .FloorDiv b pos) (dOp vDiv da db) := xe_op op_fdivW (i2_sim fun _ _ _ _ => .int _) ha hb
theorem x_mod (ha : XE X a da) (hb : XE X b db) : XE X (.BinOp a .Mod b pos) (dOp vMod da db) := xe_op op_mod (i2_sim fun _ _ _ _ => .int _) ha hb
theorem x_pow (ha : XE X a da) (hb : XE X b db) : XE X (.BinOp a .Pow b pos) (dOp vPow da db) := xe_op op_pow (i2_sim fun _ _ _ _ => .int _) ha hb
def vNeg (x : W) (S : Sto) (Q : WK) : Prop := match x with
  | .int i => Q (.int (-i)) S
  | _ => False
theorem neg_sim {K : Fg} : SimU K (rU fun i => .int (-i)) vNeg := by
  intro r H S x wx Q Q0 R px d k
  cases px <;> try exact d.elim
  exact ⟨_, rfl, k r H S _ _ .refl R (.int _) d⟩
theorem x_neg (ha : XE X a da) : XE X (.UnaryOp .USub a pos) (dUn vNeg da) := xe_un un_neg neg_sim ha
/-! ### == and its kin -/
def vEqG (neg : Bool) (x y : W) (S : Sto) (Q : WK) : Prop := match scW x y with
  | some b => Q (.bl (neg ^^ b)) S
  | none => ∃ d e, dataS S x = some d ∧ dataS S y = some e ∧ SeqAt.shaped d = true ∧ SeqAt.shaped e = true ∧ Q (.bl (neg ^^ PyData.eqv d e)) S
abbrev vEq := vEqG false
abbrev vNe := vEqG true
def rEqG (K : Fg) (neg : Bool) : R2 := fun x y H Q => (scal x y = true ∧ Q (.bl (neg ^^ decide (x = y))) H) ∨ ∃ d e, Dp K H x d ∧ Dp K H y e ∧ SeqAt.shaped d = true ∧ SeqAt.shaped e = true ∧ Q (.bl (neg ^^ PyData.eqv d e)) H
theorem op_eqG (hu : X.A.units + 64 < cLine) : OpR X (compareOp .Eq) (rEqG X.K false) := by
  have h := OpR.or (X := X) op_eq (op_eqD hu)
  intro pins s σ H x y v u Q I rx ry q
  refine h pins s σ H x y v u Q I rx ry ?_
  rcases q with q | ⟨d, e, q⟩
  · exact .inl ⟨q.1, by have z := q.2; rw [Bool.false_xor] at z; exact z⟩
  · exact .inr ⟨d, e, q.1, q.2.1, q.2.2.1, q.2.2.2.1, by have z := q.2.2.2.2; rw [Bool.false_xor] at z; exact z⟩
theorem op_neG (hu : X.A.units + 64 < cLine) : OpR X (compareOp .NotEq) (rEqG X.K true) := by
  have h := OpR.or (X := X) op_ne (op_neD hu)
  intro pins s σ H x y v u Q I rx ry q
  refine h pins s σ H x y v u Q I rx ry ?_
  rcases q with q | ⟨d, e, q⟩
  · exact .inl ⟨q.1, by have z := q.2; rw [Bool.true_xor] at z; exact z⟩
  · exact .inr ⟨d, e, q.1, q.2.1, q.2.2.1, q.2.2.2.1, by have z := q.2.2.2.2; rw [Bool.true_xor] at z; exact z⟩
theorem sc_sim {K : Fg} {r : List Addr} {H : Hp} {x y : V} {wx wy : W} {b : Bool} (px : Rep K r H x wx) (py : Rep K r H y wy) (h : scW wx wy = some b) : scal x y = true ∧ decide (x = y) = b := by
  cases px <;> cases py <;> first
    | (cases Option.some.inj h; exact ⟨rfl, rfl⟩)
    | (cases Option.some.inj h; exact ⟨rfl, by simp⟩)
    | cases h
theorem eqG_sim {K : Fg} {neg : Bool} : SimR K (rEqG K neg) (vEqG neg) := by
  intro r H S x y wx wy Q Q0 R px py d k
  unfold vEqG at d
  split at d
  · rename_i b hb
    obtain ⟨h1, h2⟩ := sc_sim px py hb
    exact .inl ⟨h1, by rw [h2]; exact k r H S _ _ .refl R (.bl _) d⟩
  · obtain ⟨d1, d2, h1, h2, s1, s2, q⟩ := d
    exact .inr ⟨d1, d2, dataS_sim R px h1, dataS_sim R py h2, s1, s2, k r H S _ _ .refl R (.bl _) q⟩
theorem x_eq (hu : X.A.units + 64 < cLine) (ha : XE X a da) (hb : XE X b db) : XE X (.Compare a [.Eq] [b] pos) (dOp vEq da db) := xe_cmp (op_eqG hu) eqG_sim ha hb
theorem x_ne (hu : X.A.units + 64 < cLine) (ha : XE X a da) (hb : XE X b db) : XE X (.Compare a [.NotEq] [b] pos) (dOp vNe da db) := xe_cmp (op_neG hu) eqG_sim ha hb
theorem t_eq (hu : X.A.units + 64 < cLine) (ha : XE X a da) (hb : XE X b db) : XT X (.Compare a [.Eq] [b] pos) (dB (dOp vEq da db)) := xt_cmp (op_eqG hu) eqG_sim ha hb
theorem t_ne (hu : X.A.units + 64 < cLine) (ha : XE X a da) (hb : XE X b db) : XT X (.Compare a [.NotEq] [b] pos) (dB (dOp vNe da db)) := xt_cmp (op_neG hu) eqG_sim ha hb
/-! ### order: ints, texts -/
def vCmp (g : Int → Int → Bool) (g' : Str → Str → Bool) (x y : W) (S : Sto) (Q : WK) : Prop := match x, y with
  | .int i, .int j => Q (.bl (g i j)) S
  | .str i, .str j => Q (.bl (g' i j)) S
  | _, _ => False
theorem cmp_sim {K : Fg} {g : Int → Int → Bool} {g' : Str → Str → Bool} : SimR K (fun x y H Q => rI0 (fun i j => .bl (g i j)) x y H Q ∨ ∃ i j, x = .str i ∧ y = .str j ∧ Q (.bl (g' i j)) H) (vCmp g g') := by
  intro r H S x y wx wy Q Q0 R px py d k
  cases px <;> cases py <;> try exact d.elim
  · exact .inl ⟨_, _, rfl, rfl, k r H S _ _ .refl R (.bl _) d⟩
  · exact .inr ⟨_, _, rfl, rfl, k r H S _ _ .refl R (.bl _) d⟩
abbrev vLt := vCmp (fun i j => decide (i < j)) fun i j => decide (i.cps.toList < j.cps.toList)
abbrev vLe := vCmp (fun i j => decide (i ≤ j)) fun i j => !decide (j.cps.toList < i.cps.toList)
abbrev vGt := vCmp (fun i j => decide (j < i)) fun i j => decide (j.cps.toList < i.cps.toList)
abbrev vGe := vCmp (fun i j => decide (j ≤ i)) fun i j => !decide (i.cps.toList < j.cps.toList)
theorem x_lt (ha : XE X a da) (hb : XE X b db) : XE X (.Compare a [.Lt] [b] pos) (dOp vLt da db) := xe_cmp (OpR.or op_lt op_lt_str) cmp_sim ha hb
theorem x_le (ha : XE X a da) (hb : XE X b db) : XE X (.Compare a [.LtE] [b] pos) (dOp vLe da db) := xe_cmp (OpR.or op_le op_le_str) cmp_sim ha hb
theorem x_gt (ha : XE X a da) (hb : XE X b db) : XE X (.Compare a [.Gt] [b] pos) (dOp vGt da db) := xe_cmp (OpR.or op_gt op_gt_str) cmp_sim ha hb
theorem x_ge (ha : XE X a da) (hb : XE X b db) : XE X (.Compare a [.GtE] [b] pos) (dOp vGe da db) := xe_cmp (OpR.or op_ge op_ge_str) cmp_sim ha hb
theorem t_lt (ha : XE X a da) (hb : XE X b db) : XT X (.Compare a [.Lt] [b] pos) (dB (dOp vLt da db)) := xt_cmp (OpR.or op_lt op_lt_str) cmp_sim ha hb
theorem t_le (ha : XE X a da) (hb : XE X b db) : XT X (.Compare a [.LtE] [b] pos) (dB (dOp vLe da db)) := xt_cmp (OpR.or op_le op_le_str) cmp_sim ha hb
theorem t_gt (ha : XE X a da) (hb : XE X b db) : XT X (.Compare a [.Gt] [b] pos) (dB (dOp vGt da db)) := xt_cmp (OpR.or op_gt op_gt_str) cmp_sim ha hb
theorem t_ge (ha : XE X a da) (hb : XE X b db) : XT X (.Compare a [.GtE] [b] pos) (dB (dOp vGe da db)) := xt_cmp (OpR.or op_ge op_ge_str) cmp_sim ha hb
/-! ### is None, in -/
def vIs (neg : Bool) (x y : W) (S : Sto) (Q : WK) : Prop := match x, y with
  | .raw _, _ => False
  | .non, .non => Q (.bl (!neg)) S
  | _, .non => Q (.bl neg) S
  | _, _ => False
theorem is_sim {K : Fg} : SimR K (fun x y H Q => y = .non ∧ Q (.bl (decide (x = .non))) H) (vIs false) := by
  intro r H S x y wx wy Q Q0 R px py d k
  cases py <;> cases px <;> first
    | exact d.elim
    | exact ⟨rfl, k r H S _ _ .refl R (.bl _) d⟩
theorem isnot_sim {K : Fg} : SimR K (fun x y H Q => y = .non ∧ Q (.bl (!decide (x = .non))) H) (vIs true) := by
  intro r H S x y wx wy Q Q0 R px py d k
  cases py <;> cases px <;> first
    | exact d.elim
    | exact ⟨rfl, k r H S _ _ .refl R (.bl _) d⟩
theorem x_is (ha : XE X a da) (hb : XE X b db) : XE X (.Compare a [.Is] [b] pos) (dOp (vIs false) da db) := xe_cmp op_isN is_sim ha hb
theorem x_isnot (ha : XE X a da) (hb : XE X b db) : XE X (.Compare a [.IsNot] [b] pos) (dOp (vIs true) da db) := xe_cmp op_notN isnot_sim ha hb
theorem t_is (ha : XE X a da) (hb : XE X b db) : XT X (.Compare a [.Is] [b] pos) (dB (dOp (vIs false) da db)) := xt_cmp op_isN is_sim ha hb
theorem t_isnot (ha : XE X a da) (hb : XE X b db) : XT X (.Compare a [.IsNot] [b] pos) (dB (dOp (vIs true) da db)) := xt_cmp op_notN isnot_sim ha hb
def vIn (neg : Bool) (x y : W) (S : Sto) (Q : WK) : Prop := ∃ ws, seqOf S y = some ws ∧ flW x = true ∧ ws.all flW = true ∧ Q (.bl (neg ^^ inW x ws)) S
theorem in_sim {K : Fg} : SimR K (rIn K false) (vIn false) := by
  intro r H S x y wx wy Q Q0 R px py d k
  obtain ⟨ws, hs, f1, f2, q⟩ := d
  obtain ⟨p, xs, rfl, hq, l⟩ := seqOf_sim R py hs
  refine ⟨p, xs, rfl, hq, flat_sim px f1, flat_all l f2, ?_⟩
  rw [if_neg Bool.false_ne_true, inW_sim px l f1 f2]
  rw [Bool.false_xor] at q
  exact k r H S _ _ .refl R (.bl _) q
theorem notin_sim {K : Fg} : SimR K (rIn K true) (vIn true) := by
  intro r H S x y wx wy Q Q0 R px py d k
  obtain ⟨ws, hs, f1, f2, q⟩ := d
  obtain ⟨p, xs, rfl, hq, l⟩ := seqOf_sim R py hs
  refine ⟨p, xs, rfl, hq, flat_sim px f1, flat_all l f2, ?_⟩
  rw [if_pos rfl, inW_sim px l f1 f2]
  rw [Bool.true_xor] at q
  exact k r H S _ _ .refl R (.bl _) q
theorem x_in (ha : XE X a da) (hb : XE X b db) (hm : behindInMarks .In b = false := by rfl) : XE X (.Compare a [.In] [b] pos) (dOp (vIn false) da db) := xe_cmp op_in_seq in_sim ha hb hm
theorem x_notin (ha : XE X a da) (hb : XE X b db) (hm : behindInMarks .NotIn b = false := by rfl) : XE X (.Compare a [.NotIn] [b] pos) (dOp (vIn true) da db) := xe_cmp op_notIn_seq notin_sim ha hb hm
theorem t_in (ha : XE X a da) (hb : XE X b db) (hm : behindInMarks .In b = false := by rfl) : XT X (.Compare a [.In] [b] pos) (dB (dOp (vIn false) da db)) := xt_cmp op_in_seq in_sim ha hb hm
theorem t_notin (ha : XE X a da) (hb : XE X b db) (hm : behindInMarks .NotIn b = false := by rfl) : XT X (.Compare a [.NotIn] [b] pos) (dB (dOp (vIn true) da db)) := xt_cmp op_notIn_seq notin_sim ha hb hm
/-! ### subscripts -/
def vIx (x y : W) (S : Sto) (Q : WK) : Prop := match x, y with
  | .ref p, .int i => ∃ ws w, S[p]? = some (.lst ws) ∧ atI ws i = some w ∧ Q w S
  | .tup ws, .int i => ∃ w, atI ws i = some w ∧ Q w S
  | .lit ws, .int i => ∃ w, atI ws i = some w ∧ Q w S
  | .str z, .int i => ∃ c, z.length ≤ sizeLine ∧ atI z.cps.toList i = some c ∧ Q (.str ⟨#[c]⟩) S
  | _, _ => False
theorem ix_sim {K : Fg} : SimR K (rIx K) vIx := by
  intro r H S x y wx wy Q Q0 R px py d k
  cases px <;> cases py <;> try exact d.elim
  · obtain ⟨c, h1, h2, q⟩ := d
    exact .inr (.inr ⟨_, _, c, rfl, rfl, h1, h2, k r H S _ _ .refl R (.str _) q⟩)
  · rename_i a xs ws h l i
    obtain ⟨w, h1, q⟩ := d
    obtain ⟨v, hv, pv⟩ := atI_sim l h1
    exact .inr (.inl ⟨_, xs, i, v, rfl, rfl, h, hv, k r H S _ _ .refl R pv q⟩)
  · rename_i a xs ws h l i
    obtain ⟨w, h1, q⟩ := d
    obtain ⟨v, hv, pv⟩ := atI_sim l h1
    exact .inl ⟨_, xs, i, v, rfl, rfl, h.1, hv, k r H S _ _ .refl R pv q⟩
  · rename_i a j h i
    obtain ⟨ws, w, h0, h1, q⟩ := d
    obtain ⟨xs, h3, l⟩ := R.obj j _ _ h h0
    obtain ⟨v, hv, pv⟩ := atI_sim l h1
    exact .inl ⟨_, xs, i, v, rfl, rfl, .of h3, hv, k r H S _ _ .refl R pv q⟩
theorem x_ix (ha : XE X a da) (hb : XE X b db) (hs : PlainIx b := by exact fun _ _ => rfl) : XE X (.Subscript a b pos) (dOp vIx da db) := xe_ix ix_seq ix_sim ha hb hs
def vSl (x : W) (lo hi : Option Int) (S : Sto) (Q : WK) : Prop := match x with
  | .ref p => ∃ ws, S[p]? = some (.lst ws) ∧ Q (.ref S.length) (S ++ [.lst (cutW ws lo hi)])
  | .lit ws => Q (.ref S.length) (S ++ [.lst (cutW ws lo hi)])
  | .tup ws => Q (.tup (cutW ws lo hi)) S
  | .str z => z.length ≤ sizeLine ∧ Q (.str (cutS z lo hi)) S
  | _ => False
def rSlAll (K : Fg) : V → Option Int → Option Int → Hp → VK → Prop := fun x lo hi H Q => rSlL K x lo hi H Q ∨ (rSlA K x lo hi H Q ∨ rSlS x lo hi H Q)
theorem sl_all : SlR X (rSlAll X.K) := SlR.or sl_list (SlR.or sl_tupA sl_str)
theorem sl_sim {K : Fg} : SimSl K (rSlAll K) vSl := by
  intro r H S x wx lo hi Q Q0 R px d k
  cases px <;> try exact d.elim
  · exact .inr (.inr ⟨_, rfl, d.1, k r H S _ _ .refl R (.str _) d.2⟩)
  · rename_i a xs ws h l
    have e := l.length
    refine .inr (.inl ⟨a, xs, rfl, h, fun hw => ?_, fun hw p hp => ?_⟩)
    · rw [e] at hw
      have d' : Q (.tup (cutW ws lo hi)) S := d
      rw [cutW_whole hw] at d'
      exact k r H S _ _ .refl R (.tup h l) d'
    · exact k r _ S _ _ (ext_new hp) (rel_new R hp) (rep_tup hp (cut_sim l lo hi)) d
  · rename_i a xs ws h l
    exact .inl ⟨a, xs, rfl, h.1, fun p hp => k _ _ _ _ _ (ext_mem hp) (new_lst R hp (cut_sim l lo hi)) (rep_mem R) d⟩
  · rename_i a j h
    obtain ⟨ws, h0, q⟩ := d
    obtain ⟨xs, h3, l⟩ := R.obj j _ _ h h0
    exact .inl ⟨a, xs, rfl, .of h3, fun p hp => k _ _ _ _ _ (ext_mem hp) (new_lst R hp (cut_sim l lo hi)) (rep_mem R) q⟩
theorem x_slice {lo hi : Option Expr} {p2 : Pos} {dl dh : DO} (ha : XE X a da) (hl : XO X lo dl) (hu : XO X hi dh) : XE X (.Subscript a (.Slice lo hi none p2) pos) (dSl vSl da dl dh) := xe_slice sl_all sl_sim ha hl hu
def vSet (o i v : W) (S : Sto) (Q : Sto → Prop) : Prop := match o, i with
  | .ref p, .int k => ∃ ws j, S[p]? = some (.lst ws) ∧ ixN ws.length k = some j ∧ Q (S.set p (.lst (ws.set j v)))
  | _, _ => False
theorem set_sim {K : Fg} : SimSet K rSetL vSet := by
  intro r H S o i v wo wi w Q Q0 R po pi pv d k
  cases po <;> cases pi <;> try exact d.elim
  rename_i a j h n
  obtain ⟨ws, m, h0, h1, q⟩ := d
  obtain ⟨xs, h3, l⟩ := R.obj j _ _ h h0
  exact ⟨a, xs, n, m, rfl, rfl, h3, by rw [l.length]; exact h1, k r _ _ (ext_wr h h3 trivial) (wr_lst R h h3 (l.set pv m)) q⟩
theorem g_sub (ho : XE X a da) (hi : XE X b db) (ha : ∀ v, assign (.Subscript a b pos) X.env v = (do
      let ov ← holding [v] (eval a X.env)
      let iv ← holding [v, ov] (eval b X.env)
      standAt pos
      holding [v, ov, iv] (setItem ov iv v)
      release [v, ov, iv] []) := by intro _; rfl) : XG X (.Subscript a b pos) (gSb da db vSet) := xg_sub set_list set_sim ho hi ha
/-! ### built-ins -/
def vLen (xs : List W) (S : Sto) (Q : WK) : Prop := match xs with
  | [.str z] => z.length ≤ sizeLine ∧ Q (.int z.length) S
  | [w] => ∃ ws, seqOf S w = some ws ∧ Q (.int ws.length) S
  | _ => False
theorem len_sim {K : Fg} : SimC K (fun xs H Q => ∃ x n, xs = [x] ∧ LenV K x H n ∧ Q (.int n) H) vLen := by
  intro r H S xs ws Q Q0 R l d k
  cases l with
  | nil => exact d.elim
  | cons p l =>
    cases l with
    | cons p' l' => cases p <;> exact d.elim
    | nil =>
      have go : ∀ {v : V} {w : W}, Rep K r H v w → (∃ us, seqOf S w = some us ∧ Q (.int us.length) S) → ∃ x n, [v] = [x] ∧ LenV K x H n ∧ Q0 (.int n) H := fun {v w} p h => by
        obtain ⟨us, hs, q⟩ := h
        obtain ⟨a, xs, rfl, hq, l⟩ := seqOf_sim R p hs
        refine ⟨.ref a, xs.length, rfl, ?_, by rw [l.length]; exact k r H S _ _ .refl R (.int _) q⟩
        rcases hq with hq | hq
        · exact .inl ⟨xs, hq, rfl⟩
        · exact .inr ⟨xs, hq, rfl⟩
      have hp := p
      cases p with
      | str z => exact ⟨_, _, rfl, ⟨d.1, rfl⟩, k r H S _ _ .refl R (.int _) d.2⟩
      | _ => exact go hp d
variable {x : Str} {p : Pos}
theorem c_len (hg : Gl X "len") (hm : X.mg "len" = none) (ha : XA X (e :: es) dA) (he : starEach (e :: es) X.env = (false, eval e X.env) :: starEach es X.env := by rfl) (hpl : (backTo pos (starEach es X.env)).any (·.1) = false := by rfl) : XE X (.Call (.Name "len" p) (e :: es) [] pos) (dCB vLen dA) :=
  xe_callB call_len len_sim hg hm PySem.boot_len ha (by decide) (by decide) he hpl
def vI1 (g : Int → W) (xs : List W) (S : Sto) (Q : WK) : Prop := match xs with
  | [.int i] => Q (g i) S
  | _ => False
theorem abs_sim {K : Fg} : SimC K (fun xs H Q => ∃ i, xs = [.int i] ∧ Q (.int (if i < 0 then -i else i)) H) (vI1 fun i => .int (if i < 0 then -i else i)) := by
  intro r H S xs ws Q Q0 R l d k
  cases l with
  | nil => exact d.elim
  | cons p l =>
    cases l with
    | cons p' l' => cases p <;> exact d.elim
    | nil => cases p <;> first | exact d.elim | exact ⟨_, rfl, k r H S _ _ .refl R (.int _) d⟩
theorem c_abs (hg : Gl X "abs") (hm : X.mg "abs" = none) (ha : XA X (e :: es) dA) (he : starEach (e :: es) X.env = (false, eval e X.env) :: starEach es X.env := by rfl) (hpl : (backTo pos (starEach es X.env)).any (·.1) = false := by rfl) : XE X (.Call (.Name "abs" p) (e :: es) [] pos) (dCB (vI1 fun i => .int (if i < 0 then -i else i)) dA) :=
  xe_callB call_abs abs_sim hg hm (by decide +kernel) ha (by decide) (by decide) he hpl
def vIntOf (xs : List W) (S : Sto) (Q : WK) : Prop := match xs with
  | [.int i] => Q (.int i) S
  | [.bl b] => Q (.int (if b then 1 else 0)) S
  | [.str a] => ∃ n, PySem.intText? a = some n ∧ a.length ≤ 640 ∧ Q (.int n) S
  | _ => False
theorem int_sim {K : Fg} : SimC K (fun xs H Q => ((∃ i, xs = [.int i] ∧ Q (.int i) H) ∨ ∃ k, xs = [.bl k] ∧ Q (.int (if k then 1 else 0)) H) ∨ ∃ a n, xs = [.str a] ∧ PySem.intText? a = some n ∧ a.length ≤ 640 ∧ Q (.int n) H) vIntOf := by
  intro r H S xs ws Q Q0 R l d k
  cases l with
  | nil => exact d.elim
  | cons p l =>
    cases l with
    | cons p' l' => cases p <;> exact d.elim
    | nil =>
      cases p <;> try exact d.elim
      · exact .inl (.inr ⟨_, rfl, k r H S _ _ .refl R (.int _) d⟩)
      · exact .inl (.inl ⟨_, rfl, k r H S _ _ .refl R (.int _) d⟩)
      · obtain ⟨n, h1, h2, q⟩ := d
        exact .inr ⟨_, n, rfl, h1, h2, k r H S _ _ .refl R (.int _) q⟩
theorem c_int (hg : Gl X "int") (hm : X.mg "int" = none) (ha : XA X (e :: es) dA) (he : starEach (e :: es) X.env = (false, eval e X.env) :: starEach es X.env := by rfl) (hpl : (backTo pos (starEach es X.env)).any (·.1) = false := by rfl) : XE X (.Call (.Name "int" p) (e :: es) [] pos) (dCB vIntOf dA) :=
  xe_callTy (CallR.or call_int1 call_int_str) int_sim hg hm (by decide +kernel) ha (by decide) (by decide) he hpl
def vStrOf (xs : List W) (S : Sto) (Q : WK) : Prop := match xs with
  | [.int i] => i.natAbs.log2 < 1920 ∧ Q (.str (toString i)) S
  | [.str a] => Q (.str a) S
  | _ => False
theorem str_sim {K : Fg} : SimC K (fun xs H Q => (∃ i, xs = [.int i] ∧ i.natAbs.log2 < 1920 ∧ Q (.str (toString i)) H) ∨ ∃ a, xs = [.str a] ∧ Q (.str a) H) vStrOf := by
  intro r H S xs ws Q Q0 R l d k
  cases l with
  | nil => exact d.elim
  | cons p l =>
    cases l with
    | cons p' l' => cases p <;> exact d.elim
    | nil =>
      cases p <;> try exact d.elim
      · exact .inl ⟨_, rfl, d.1, k r H S _ _ .refl R (.str _) d.2⟩
      · exact .inr ⟨_, rfl, k r H S _ _ .refl R (.str _) d⟩
theorem c_str (hg : Gl X "str") (hm : X.mg "str" = none) (ha : XA X (e :: es) dA) (he : starEach (e :: es) X.env = (false, eval e X.env) :: starEach es X.env := by rfl) (hpl : (backTo pos (starEach es X.env)).any (·.1) = false := by rfl) : XE X (.Call (.Name "str" p) (e :: es) [] pos) (dCB vStrOf dA) :=
  xe_callTy (CallR.or call_str_int SkE.call_str_str) str_sim hg hm (by decide +kernel) ha (by decide) (by decide) he hpl
def vList (xs : List W) (S : Sto) (Q : WK) : Prop := match xs with
  | [w] => ∃ ws, seqOf S w = some ws ∧ Q (.ref S.length) (S ++ [.lst ws])
  | _ => False
theorem list_sim {K : Fg} : SimC K (fun xs H Q => ∃ p ys, xs = [.ref p] ∧ (SqL K H p ys ∨ SqT K H p ys) ∧ ∀ l, H l = none → Q (.ref l) (upd H l (.lst ys))) vList := by
  intro r H S xs ws Q Q0 R l d k
  cases l with
  | nil => exact d.elim
  | cons p l =>
    cases l with
    | cons p' l' => exact d.elim
    | nil =>
      obtain ⟨us, hs, q⟩ := d
      obtain ⟨a, xs, rfl, hq, l⟩ := seqOf_sim R p hs
      exact ⟨a, xs, rfl, hq, fun p hp => k _ _ _ _ _ (ext_mem hp) (new_lst R hp l) (rep_mem R) q⟩
theorem c_list (hg : Gl X "list") (hm : X.mg "list" = none) (ha : XA X (e :: es) dA) (he : starEach (e :: es) X.env = (false, eval e X.env) :: starEach es X.env := by rfl) (hpl : (backTo pos (starEach es X.env)).any (·.1) = false := by rfl) : XE X (.Call (.Name "list" p) (e :: es) [] pos) (dCB vList dA) :=
  xe_callTy call_list_of list_sim hg hm (by decide +kernel) ha (by decide) (by decide) he hpl
def vTuple (xs : List W) (S : Sto) (Q : WK) : Prop := match xs with
  | [w] => ∃ ws, seqOf S w = some ws ∧ Q (.tup ws) S
  | _ => False
theorem tuple_sim {K : Fg} : SimC K (fun xs H Q => ∃ p ys, xs = [.ref p] ∧ ((SqL K H p ys ∧ ∀ l, H l = none → Q (.ref l) (upd H l (.tup ys))) ∨ (SqT K H p ys ∧ Q (.ref p) H))) vTuple := by
  intro r H S xs ws Q Q0 R l d k
  cases l with
  | nil => exact d.elim
  | cons p l =>
    cases l with
    | cons p' l' => exact d.elim
    | nil =>
      obtain ⟨us, hs, q⟩ := d
      obtain ⟨a, xs, rfl, hq, l⟩ := seqOf_sim R p hs
      refine ⟨a, xs, rfl, ?_⟩
      rcases hq with hq | hq
      · exact .inl ⟨hq, fun p hp => k r _ S _ _ (ext_new hp) (rel_new R hp) (rep_tup hp l) q⟩
      · exact .inr ⟨hq, k r H S _ _ .refl R (.tup hq l) q⟩
theorem c_tuple (hg : Gl X "tuple") (hm : X.mg "tuple" = none) (ha : XA X (e :: es) dA) (he : starEach (e :: es) X.env = (false, eval e X.env) :: starEach es X.env := by rfl) (hpl : (backTo pos (starEach es X.env)).any (·.1) = false := by rfl) : XE X (.Call (.Name "tuple" p) (e :: es) [] pos) (dCB vTuple dA) :=
  xe_callTy call_tuple_of tuple_sim hg hm (by decide +kernel) ha (by decide) (by decide) he hpl
/-- isinstance -/
def tyW (S : Sto) : W → Option String
  | .non => some "NoneType" | .bl _ => some "bool" | .int _ => some "int" | .str _ => some "str" | .tup _ => some "tuple" | .lit _ => some "list"
  | .ref i => match S[i]? with
    | some (.lst _) => some "list"
    | some (.dk _) => some "dict"
    | some (.tk _) => none
    | some (.dt _) => none
    | some (.ft _) => none
    | some (.nd _ _ _ _) => none
    | none => none
  | .raw _ => none
def vIsi (xs : List W) (S : Sto) (Q : WK) : Prop := match xs with
  | [w, .raw (.ty n)] => ∃ t b, tyW S w = some t ∧ kitB t n = some b ∧ Q (.bl b) S
  | _ => False
theorem sqL_ty {K : Fg} {H : Hp} {a : Addr} {xs : List V} (h : SqL K H a xs) : TyX K H (.ref a) (.type "list") := by
  rcases h with (h | ⟨o, h⟩) | ⟨o, its, n, h, hc, _⟩
  · exact .base (.lst h)
  · exact .base (.frz h)
  · exact .kList h hc
theorem sqT_ty {K : Fg} {H : Hp} {a : Addr} {xs : List V} (h : SqT K H a xs) : TyX K H (.ref a) (.type "tuple") := by
  rcases h with (h | ⟨o, h⟩) | ⟨o, its, n, h, hc, _⟩
  · exact .base (.tup h)
  · exact .fTuple h
  · exact .kTuple h hc
theorem tyW_sim {K : Fg} {r : List Addr} {H : Hp} {S : Sto} {v : V} {w : W} {t : String} (R : RelS K r H S) (p : Rep K r H v w) (h : tyW S w = some t) : TyX K H v (.type t) := by
  cases p with
  | non => cases Option.some.inj h; exact .base .non
  | bl b => cases Option.some.inj h; exact .base (.bl b)
  | int b => cases Option.some.inj h; exact .base (.int b)
  | str b => cases Option.some.inj h; exact .base (.str b)
  | tup q l => cases Option.some.inj h; exact sqT_ty q
  | lit q l => cases Option.some.inj h; exact sqL_ty q.1
  | @ref a i q =>
    obtain ⟨o, ho, x⟩ := relO_there R q
    have e : tyW S (.ref i) = some t := h
    simp only [tyW, ho] at e
    cases o with
    | lst us =>
      cases Option.some.inj e
      obtain ⟨xs, h1, l⟩ := x
      exact .base (.lst h1)
    | dk us =>
      cases Option.some.inj e
      obtain ⟨xs, h1, l⟩ := x
      exact .base (.dK h1)
    | tk us => cases e
    | dt us => cases e
    | ft us => cases e
    | nd P w z us => cases e
  | raw v => cases h
theorem rep_ty {K : Fg} {r : List Addr} {H : Hp} {v u : V} (p : Rep K r H v (.raw u)) : v = u := by cases p; rfl
theorem isi_sim {K : Fg} : SimC K (rIsi K) vIsi := by
  intro r H S xs ws Q Q0 R l d k
  cases l with
  | nil => exact d.elim
  | @cons v vs w ws p l =>
    cases l with
    | nil => exact d.elim
    | @cons u us z zs p' l' =>
      cases l' with
      | cons p2 l2 =>
        unfold vIsi at d
        split at d
        · rename_i heq
          cases heq
        · exact d.elim
      | nil =>
        unfold vIsi at d
        split at d
        · rename_i w' n heq
          injection heq with e1 e2
          injection e2 with e2 _
          subst e1
          subst e2
          obtain ⟨t, b, h1, h2, q⟩ := d
          have e3 := rep_ty p'
          subst e3
          exact ⟨v, .ty n, .type t, .type n, b, rfl, .ty n, tyW_sim R p h1, kit_ty h2, k r H S _ _ .refl R (.bl b) q⟩
        · exact d.elim
theorem c_isi (hg : Gl X "isinstance") (hm : X.mg "isinstance" = none) (ha : XA X (e :: es) dA) (he : starEach (e :: es) X.env = (false, eval e X.env) :: starEach es X.env := by rfl) (hpl : (backTo pos (starEach es X.env)).any (·.1) = false := by rfl) : XE X (.Call (.Name "isinstance" p) (e :: es) [] pos) (dCB vIsi dA) :=
  xe_callB call_isi isi_sim hg hm (by decide +kernel) ha (by decide) (by decide) he hpl
/-- any, all of a list of bools; sum of ints -/
def vAny (f : List Bool → Bool) (xs : List W) (S : Sto) (Q : WK) : Prop := match xs with
  | [.ref i] => ∃ bs : List Bool, S[i]? = some (.lst (bs.map W.bl)) ∧ Q (.bl (f bs)) S
  | _ => False
theorem any_sim {K : Fg} {f : List Bool → Bool} : SimC K (fun vs H Q => ∃ (a : Addr) (bs : List Bool), vs = [V.ref a] ∧ SqL K H a (bs.map V.bl) ∧ Q (.bl (f bs)) H) (vAny f) := by
  intro r H S xs ws Q Q0 R l d k
  cases l with
  | nil => exact d.elim
  | cons p l =>
    cases l with
    | cons p' l' => cases p <;> exact d.elim
    | nil =>
      cases p <;> try exact d.elim
      rename_i a i h
      obtain ⟨bs, h0, q⟩ := d
      obtain ⟨xs, h3, l⟩ := R.obj i _ _ h h0
      have e := repL_bls l
      subst e
      exact ⟨a, bs, rfl, .of h3, k r H S _ _ .refl R (.bl _) q⟩
theorem c_any (hc : X.calm = true) (hg : Gl X "any") (hm : X.mg "any" = none) (ha : XA X (e :: es) dA) (he : starEach (e :: es) X.env = (false, eval e X.env) :: starEach es X.env := by rfl) (hpl : (backTo pos (starEach es X.env)).any (·.1) = false := by rfl) : XE X (.Call (.Name "any" p) (e :: es) [] pos) (dCB (vAny fun bs => bs.any id) dA) :=
  xe_callB (cr_any hc) any_sim hg hm (by decide +kernel) ha (by decide) (by decide) he hpl
theorem c_all (hc : X.calm = true) (hg : Gl X "all") (hm : X.mg "all" = none) (ha : XA X (e :: es) dA) (he : starEach (e :: es) X.env = (false, eval e X.env) :: starEach es X.env := by rfl) (hpl : (backTo pos (starEach es X.env)).any (·.1) = false := by rfl) : XE X (.Call (.Name "all" p) (e :: es) [] pos) (dCB (vAny fun bs => bs.all id) dA) :=
  xe_callB (cr_all hc) any_sim hg hm (by decide +kernel) ha (by decide) (by decide) he hpl
def vSum (xs : List W) (S : Sto) (Q : WK) : Prop := match xs with
  | [.ref i] => ∃ bs : List Int, S[i]? = some (.lst (bs.map W.int)) ∧ Q (.int bs.sum) S
  | _ => False
theorem sum_sim {K : Fg} : SimC K (rSum K) vSum := by
  intro r H S xs ws Q Q0 R l d k
  cases l with
  | nil => exact d.elim
  | cons p l =>
    cases l with
    | cons p' l' => cases p <;> exact d.elim
    | nil =>
      cases p <;> try exact d.elim
      rename_i a i h
      obtain ⟨bs, h0, q⟩ := d
      obtain ⟨xs, h3, l⟩ := R.obj i _ _ h h0
      have e := repL_ints l
      subst e
      exact ⟨a, bs, rfl, .of h3, k r H S _ _ .refl R (.int _) q⟩
theorem c_sum (hc : X.calm = true) (hg : Gl X "sum") (hm : X.mg "sum" = none) (ha : XA X (e :: es) dA) (he : starEach (e :: es) X.env = (false, eval e X.env) :: starEach es X.env := by rfl) (hpl : (backTo pos (starEach es X.env)).any (·.1) = false := by rfl) : XE X (.Call (.Name "sum" p) (e :: es) [] pos) (dCB vSum dA) :=
  xe_callB (cr_sum hc) sum_sim hg hm (by decide +kernel) ha (by decide) (by decide) he hpl
/-! ### methods -/
variable {apos cpos : Pos}
def vAppend (x : W) (ws : List W) (S : Sto) (Q : WK) : Prop := match x, ws with
  | .ref i, [y] => ∃ zs, S[i]? = some (.lst zs) ∧ zs.length < sizeLine ∧ Q .non (S.set i (.lst (zs ++ [y])))
  | _, _ => False
theorem append_sim {K : Fg} : SimM K rAppend vAppend := by
  intro r H S x xs wx ws Q Q0 R px l d k
  cases px <;> try (cases l <;> exact d.elim)
  rename_i a i h
  cases l with
  | nil => exact d.elim
  | cons p l =>
    cases l with
    | cons p' l' => exact d.elim
    | nil =>
      obtain ⟨zs, h0, hz, q⟩ := d
      obtain ⟨xs, h3, l⟩ := R.obj i _ _ h h0
      exact ⟨a, xs, _, rfl, rfl, h3, by rw [l.length]; exact hz, k r _ _ _ _ (ext_wr h h3 trivial) (wr_lst R h h3 (l.app (.one p))) .non q⟩
theorem m_append {dr : DA} (ho : XE X o d0) (ha : XA X (e :: es) dr) (hbase : attributeBase o "append" X.env (eval o X.env) = eval o X.env := by rfl)
    (hfew : ((backTo cpos (starEach (e :: es) X.env)).all (fun x => !x.1) && (backToKw cpos (keywordEach [] X.env)).all (fun x => x.1.isSome)
      && decide ((e :: es).length + ([] : List Keyword).length + (if ([] : List Keyword).isEmpty then 0 else 1) < 30)) = true := by rfl)
    (hline : (apos.endLine == cpos.line) = true := by rfl) (hs : starEach (e :: es) X.env = (false, eval e X.env) :: starEach es X.env := by rfl) (hplain : (backTo cpos (starEach es X.env)).any (·.1) = false := by rfl) :
    XE X (.Call (.Attribute o "append" apos) (e :: es) [] cpos) (dBM "list" vAppend d0 dr) :=
  xe_bm PySem.F.plainAttrs_list PySem.F.slot_list_append PySem.F.type_list_append mt_append append_sim ho ha hbase hfew hline hs hplain
def vPop0 (x : W) (ws : List W) (S : Sto) (Q : WK) : Prop := match x, ws with
  | .ref i, [] => ∃ zs y, S[i]? = some (.lst zs) ∧ zs[zs.length - 1]? = some y ∧ Q y (S.set i (.lst zs.dropLast))
  | _, _ => False
theorem pop0_sim {K : Fg} : SimM K rPop vPop0 := by
  intro r H S x xs wx ws Q Q0 R px l d k
  cases px <;> try (cases l <;> exact d.elim)
  rename_i a i h
  cases l with
  | cons p l => exact d.elim
  | nil =>
    obtain ⟨zs, y, h0, hy, q⟩ := d
    obtain ⟨xs, h3, l⟩ := R.obj i _ _ h h0
    obtain ⟨v, hv, pv⟩ := l.get hy
    exact ⟨a, xs, v, rfl, rfl, h3, by rw [l.length]; exact hv, k r _ _ _ _ (ext_wr h h3 trivial) (wr_lst R h h3 l.dropLast) (pv.mono (ext_wr h h3 trivial)) q⟩
theorem m_pop0 (ho : XE X o d0) (hbase : attributeBase o "pop" X.env (eval o X.env) = eval o X.env := by rfl) (hline : (apos.endLine == cpos.line) = true := by rfl) :
    XE X (.Call (.Attribute o "pop" apos) [] [] cpos) (dBM0 "list" vPop0 d0) :=
  xe_bm0 PySem.F.plainAttrs_list PySem.F.slot_list_pop PySem.F.type_list_pop mt_pop pop0_sim ho hbase hline
def vPop1 (x : W) (ws : List W) (S : Sto) (Q : WK) : Prop := match x, ws with
  | .ref i, [.int n] => ∃ zs j y, S[i]? = some (.lst zs) ∧ -(2 ^ 63) ≤ n ∧ n < 2 ^ 63 ∧ ixN zs.length n = some j ∧ zs[j]? = some y ∧ Q y (S.set i (.lst (zs.eraseIdx j)))
  | _, _ => False
theorem pop1_sim {K : Fg} : SimM K rPopAt vPop1 := by
  intro r H S x xs wx ws Q Q0 R px l d k
  cases px <;> try (cases l <;> exact d.elim)
  rename_i a i h
  cases l with
  | nil => exact d.elim
  | cons p l =>
    cases l with
    | cons p' l' => cases p <;> exact d.elim
    | nil =>
      cases p <;> try exact d.elim
      rename_i n
      obtain ⟨zs, j, y, h0, n1, n2, hj, hy, q⟩ := d
      obtain ⟨xs, h3, l⟩ := R.obj i _ _ h h0
      obtain ⟨v, hv, pv⟩ := l.get hy
      exact ⟨a, xs, n, j, v, rfl, rfl, h3, n1, n2, by rw [l.length]; exact (ixN_seq hj).1, hv, k r _ _ _ _ (ext_wr h h3 trivial) (wr_lst R h h3 (l.eraseIdx j)) (pv.mono (ext_wr h h3 trivial)) q⟩
theorem m_pop1 {dr : DA} (ho : XE X o d0) (ha : XA X (e :: es) dr) (hbase : attributeBase o "pop" X.env (eval o X.env) = eval o X.env := by rfl)
    (hfew : ((backTo cpos (starEach (e :: es) X.env)).all (fun x => !x.1) && (backToKw cpos (keywordEach [] X.env)).all (fun x => x.1.isSome)
      && decide ((e :: es).length + ([] : List Keyword).length + (if ([] : List Keyword).isEmpty then 0 else 1) < 30)) = true := by rfl)
    (hline : (apos.endLine == cpos.line) = true := by rfl) (hs : starEach (e :: es) X.env = (false, eval e X.env) :: starEach es X.env := by rfl) (hplain : (backTo cpos (starEach es X.env)).any (·.1) = false := by rfl) :
    XE X (.Call (.Attribute o "pop" apos) (e :: es) [] cpos) (dBM "list" vPop1 d0 dr) :=
  xe_bm PySem.F.plainAttrs_list PySem.F.slot_list_pop PySem.F.type_list_pop mt_popAt pop1_sim ho ha hbase hfew hline hs hplain
def vJoin (x : W) (ws : List W) (S : Sto) (Q : WK) : Prop := match x, ws with
  | .str a, [w] => ∃ ys : List Str, seqOf S w = some (ys.map W.str) ∧ (ys.map (·.length)).sum + ys.length * a.length ≤ 16777216 ∧ Q (.str (Txt.join a ys)) S
  | _, _ => False
theorem join_sim {K : Fg} : SimM K (fun x xs H Q => ∃ a p, ∃ ys : List Str, x = .str a ∧ xs = [.ref p] ∧ (SqL K H p (ys.map V.str) ∨ SqT K H p (ys.map V.str)) ∧
    (ys.map (·.length)).sum + ys.length * a.length ≤ 16777216 ∧ Q (.str (Txt.join a ys)) H) vJoin := by
  intro r H S x xs wx ws Q Q0 R px l d k
  cases px <;> try (cases l <;> exact d.elim)
  cases l with
  | nil => exact d.elim
  | cons p l =>
    cases l with
    | cons p' l' => exact d.elim
    | nil =>
      obtain ⟨ys, h0, hz, q⟩ := d
      obtain ⟨a, xs, rfl, hq, l⟩ := seqOf_sim R p h0
      have e := repL_strs l
      subst e
      exact ⟨_, a, ys, rfl, rfl, hq, hz, k r H S _ _ .refl R (.str _) q⟩
theorem m_join {dr : DA} (ho : XE X o d0) (ha : XA X (e :: es) dr) (hbase : attributeBase o "join" X.env (eval o X.env) = eval o X.env := by rfl)
    (hfew : ((backTo cpos (starEach (e :: es) X.env)).all (fun x => !x.1) && (backToKw cpos (keywordEach [] X.env)).all (fun x => x.1.isSome)
      && decide ((e :: es).length + ([] : List Keyword).length + (if ([] : List Keyword).isEmpty then 0 else 1) < 30)) = true := by rfl)
    (hline : (apos.endLine == cpos.line) = true := by rfl) (hs : starEach (e :: es) X.env = (false, eval e X.env) :: starEach es X.env := by rfl) (hplain : (backTo cpos (starEach es X.env)).any (·.1) = false := by rfl) :
    XE X (.Call (.Attribute o "join" apos) (e :: es) [] cpos) (dBM "str" vJoin d0 dr) :=
  xe_bm PySem.F.plainAttrs_str PySem.F.slot_str_join PySem.F.type_str_join mt_join join_sim ho ha hbase hfew hline hs hplain
end
end DL

/-! DLe: sorted, calls of defs by position and by keywords. -/
namespace DL
open PySem PySem.Spec PyProof.Rows L2

/-! ### sorted, of data of any kind -/
def rSortD (K : Fg) : List V → Hp → VK → Prop := fun vs H Q => ∃ (a : Addr) (bs : List (V × DL.W)), vs = [.ref a] ∧ SqL K H a (bs.map (·.1)) ∧ (∀ b ∈ bs, Dp K H b.1 (datW b.2)) ∧
  PySem.W.AllAlike (bs.map fun b => datW b.2) ∧ PySem.W.Sortable (bs.map fun b => datW b.2) ∧ (∀ b ∈ bs, (datW b.2).depth ≤ 60) ∧
  ∀ p, H p = none → Q (.ref p) (upd H p (.lst ((bs.mergeSort (PySem.W.dataLe false fun b => datW b.2)).map (·.1))))
theorem each_vals : ∀ {bs : List (V × DL.W)} {us : List Value}, Vals (bs.map (·.1)) us → PySem.W.EachIs (fun (v : Value) (b : V × DL.W) => RelV b.1 v) us bs
  | [], _, .nil => .nil
  | b :: bs, _, .cons r t => .cons r (each_vals t)
theorem vals_each : ∀ {bs : List (V × DL.W)} {us : List Value}, PySem.W.EachIs (fun (v : Value) (b : V × DL.W) => RelV b.1 v) us bs → Vals (bs.map (·.1)) us
  | _, _, .nil => .nil
  | _, _, .cons r t => .cons r (vals_each t)
section
variable {X : Cx}
theorem cr_sortD (hu : X.A.units + 64 < cLine) : CallR X (.builtin "sorted") (rSortD X.K) := by
  intro pins s σ H vs us Q I r h
  obtain ⟨a, bs, rfl, hs, hd, al, so, dp, q⟩ := h
  obtain ⟨its, rv, hl, hz⟩ := I.list hs
  rw [Vals.ref1 r]
  have e := each_vals rv
  have er : PySem.W.EachIs (fun (v : Value) (b : V × DL.W) => ∃ as, Reads s.heap v (datW b.2) as) its bs := by
    have go : ∀ {cs : List (V × DL.W)} {ws : List Value}, (∀ b ∈ cs, b ∈ bs) → PySem.W.EachIs (fun (v : Value) (b : V × DL.W) => RelV b.1 v) ws cs → PySem.W.EachIs (fun (v : Value) (b : V × DL.W) => ∃ as, Reads s.heap v (datW b.2) as) ws cs := by
      intro cs ws hm h
      induction h with
      | nil => exact .nil
      | cons r t ih => exact .cons (Dp.reads I _ _ _ (hd _ (hm _ List.mem_cons_self)) r) (ih fun b hb => hm b (List.mem_cons_of_mem _ hb))
    exact go (fun _ h => h) e
  have hlen : bs.length ≤ sizeLine := by
    rw [List.length_map] at hz
    exact hz
  refine PySem.W.sorted_data hl.isList e er (by exact al) (by exact so) hlen (fun b hb => by have := dp b hb; omega) fun out ho eo => ?_
  obtain ⟨ep, he'⟩ := PyProof.Rows.sortedAll_at s.heap its (List.toArray out)
  have vo := vals_each eo
  exact ⟨.ref _, upd H (s.heap.objs.size + 1) (.lst ((bs.mergeSort (PySem.W.dataLe false fun b => datW b.2)).map (·.1))), I.laid (t' := s.toks) (fun _ _ => PyProof.Rows.sortedAll_old) (Nat.le_succ _)
    ⟨by rw [List.length_map, List.length_mergeSort]; exact hlen, out, ep, vo, he'⟩, rfl, q _ (I.hok.fresh (Nat.le_succ _))⟩
end
def leW (a b : DL.W) : Bool := PySem.W.dataLe false datW a b
def vSorted (xs : List DL.W) (S : Sto) (Q : WK) : Prop := match xs with
  | [.ref i] => ∃ ws, S[i]? = some (.lst ws) ∧ W.pureL ws = true ∧ PySem.W.AllAlike (ws.map datW) ∧ PySem.W.Sortable (ws.map datW) ∧ (∀ w ∈ ws, (datW w).depth ≤ 60) ∧ Q (.ref S.length) (S ++ [.lst (ws.mergeSort leW)])
  | [.lit ws] => W.pureL ws = true ∧ PySem.W.AllAlike (ws.map datW) ∧ PySem.W.Sortable (ws.map datW) ∧ (∀ w ∈ ws, (datW w).depth ≤ 60) ∧ Q (.ref S.length) (S ++ [.lst (ws.mergeSort leW)])
  | _ => False
theorem zip_fst {α β : Type} : ∀ {xs : List α} {ys : List β}, xs.length = ys.length → (xs.zip ys).map (·.1) = xs
  | [], [], _ => rfl
  | [], _ :: _, h => by cases h
  | _ :: _, [], h => by cases h
  | x :: xs, y :: ys, h => by
    show x :: (xs.zip ys).map (·.1) = x :: xs
    rw [zip_fst (Nat.succ.inj h)]
theorem zip_snd {α β : Type} : ∀ {xs : List α} {ys : List β}, xs.length = ys.length → (xs.zip ys).map (·.2) = ys
  | [], [], _ => rfl
  | [], _ :: _, h => by cases h
  | _ :: _, [], h => by cases h
  | x :: xs, y :: ys, h => by
    show y :: (xs.zip ys).map (·.2) = y :: ys
    rw [zip_snd (Nat.succ.inj h)]
theorem repL_zip {K : Fg} {r : List Addr} {H : Hp} : ∀ {vs : List V} {ws : List DL.W}, RepL K r H vs ws → ∀ b ∈ vs.zip ws, Rep K r H b.1 b.2
  | _, _, .nil => fun b hb => nomatch hb
  | _, _, .cons h l => fun b hb => by
    rcases List.mem_cons.mp hb with e | m
    · rw [e]
      exact h
    · exact repL_zip l b m
theorem repL_of_pairs {K : Fg} {r : List Addr} {H : Hp} : ∀ {bs : List (V × DL.W)}, (∀ b ∈ bs, Rep K r H b.1 b.2) → RepL K r H (bs.map (·.1)) (bs.map (·.2))
  | [], _ => .nil
  | b :: bs, h => .cons (h b List.mem_cons_self) (repL_of_pairs fun c hc => h c (List.mem_cons_of_mem _ hc))
theorem pureL_mem {ws : List DL.W} (h : W.pureL ws = true) : ∀ w ∈ ws, w.pure = true := by
  induction ws with
  | nil => intro w hw; cases hw
  | cons u us ih =>
    have b : (u.pure && W.pureL us) = true := h
    rw [Bool.and_eq_true] at b
    intro w hw
    rcases List.mem_cons.mp hw with e | m
    · rw [e]; exact b.1
    · exact ih b.2 w m
theorem sorted_sim {K : Fg} : SimC K (rSortD K) vSorted := by
  intro r H S xs ws Q Q0 R l d k
  have go : ∀ {a : Addr} {vs : List V} {us : List DL.W}, SqL K H a vs → RepL K r H vs us → W.pureL us = true → PySem.W.AllAlike (us.map datW) → PySem.W.Sortable (us.map datW) → (∀ w ∈ us, (datW w).depth ≤ 60) → Q (.ref S.length) (S ++ [.lst (us.mergeSort leW)]) → rSortD K [.ref a] H Q0 := by
    intro a vs us hs l hp al so dp q
    have hl := l.length
    have e1 := zip_fst hl
    have e2 := zip_snd hl
    have e3 : (vs.zip us).map (fun b => datW b.2) = us.map datW := by
      have e5 : (vs.zip us).map (fun b => datW b.2) = ((vs.zip us).map (·.2)).map datW := by
        rw [List.map_map]
        rfl
      rw [e5, e2]
    refine ⟨a, vs.zip us, rfl, by rw [e1]; exact hs, fun b hb => dp_of (repL_zip l b hb) (pureL_mem hp _ (by rw [← e2]; exact List.mem_map_of_mem hb)), by rw [e3]; exact al, by rw [e3]; exact so, fun b hb => dp _ (by rw [← e2]; exact List.mem_map_of_mem hb), fun p hp' => ?_⟩
    have e4 : ((vs.zip us).mergeSort (PySem.W.dataLe false fun b => datW b.2)).map (·.2) = us.mergeSort leW := by
      have z := List.map_mergeSort (r := PySem.W.dataLe false fun b : V × DL.W => datW b.2) (s := leW) (f := fun b : V × DL.W => b.2) (l := vs.zip us) fun x _ y _ => rfl
      rw [z, e2]
    have rl : RepL K r H (((vs.zip us).mergeSort (PySem.W.dataLe false fun b => datW b.2)).map (·.1)) (us.mergeSort leW) := by
      rw [← e4]
      exact repL_of_pairs fun b hb => repL_zip l b ((List.mergeSort_perm _ _).mem_iff.mp hb)
    exact k _ _ _ _ _ (ext_mem hp') (new_lst R hp' rl) (rep_mem R) q
  cases l with
  | nil => exact d.elim
  | cons p l =>
    cases l with
    | cons p' l' => cases p <;> exact d.elim
    | nil =>
      cases p <;> try exact d.elim
      · rename_i a vs us h l
        obtain ⟨h1, h2, h3, h4, q⟩ := d
        exact go h.1 l h1 h2 h3 h4 q
      · rename_i a i h
        obtain ⟨us, h0, h1, h2, h3, h4, q⟩ := d
        obtain ⟨vs, h5, l⟩ := R.obj i _ _ h h0
        exact go (.of h5) l h1 h2 h3 h4 q
section
variable {X : Cx} {e : Expr} {es : List Expr} {dA : DA} {pos p : Pos}
theorem c_sorted (hu : X.A.units + 64 < cLine) (hg : Gl X "sorted") (hm : X.mg "sorted" = none) (ha : XA X (e :: es) dA) (he : starEach (e :: es) X.env = (false, eval e X.env) :: starEach es X.env := by rfl) (hpl : (backTo pos (starEach es X.env)).any (·.1) = false := by rfl) : XE X (.Call (.Name "sorted" p) (e :: es) [] pos) (dCB vSorted dA) :=
  xe_callB (cr_sortD hu) sorted_sim hg hm (by decide +kernel) ha (by decide) (by decide) he hpl
end

/-! ### defs: what they promise, how they are called -/
structure TDef (P : Program) (w : World) (K : Fg) (mg : Str → Option Value) (base : Heap) (k : Nat) (x : Str) (st : Stmt) (ps : List Str) (F : DSpec) : Prop where
  ex : ∃ f fd, FnOk P w K mg base CX0 k f fd ps (spOf K F) ∧ mg x = some (.ref f) ∧ PySem.W.keepIn K (.ref f) = true ∧ Binds K fd ps [] ∧
    ∃ (kV doc pm : Value) (an : Option Addr) (cdv ct : Value), fd = PySem.W.fnOf x x (defArgs st) (defBody st) (defScope st) .none kV doc pm an cdv ct
def permL {α : Type} (perm : List Nat) (l : List α) : List α := perm.filterMap fun i => l[i]?
/-- how n values by position and those of the keywords ks come to the parameters -/
structure KPat (x : Str) (st : Stmt) (ps : List Str) (n : Nat) (ks : List Str) (perm : List Nat) : Prop where
  bind : ∀ (kV doc pm : Value) (an : Option Addr) (cdv ct : Value) (us ws : List Value), us.length = n → ws.length = ks.length →
    bindArgs (PySem.W.fnOf x x (defArgs st) (defBody st) (defScope st) .none kV doc pm an cdv ct) ⟨us, ks.zip ws⟩ = pure (ps.zip (permL perm (us ++ ws)))
  ne : ps ≠ []
theorem valsPerm {vs : List V} {us : List Value} (r : Vals vs us) : ∀ perm : List Nat, Vals (permL perm vs) (permL perm us)
  | [] => .nil
  | i :: perm => by
    unfold permL
    cases h : vs[i]? with
    | none =>
      have h2 := r.none_of h
      rw [List.filterMap_cons_none h, List.filterMap_cons_none h2]
      exact valsPerm r perm
    | some v =>
      obtain ⟨u, h2, q⟩ := r.get h
      rw [List.filterMap_cons_some h, List.filterMap_cons_some h2]
      exact .cons q (valsPerm r perm)
theorem RepL.perm {K : Fg} {r : List Addr} {H : Hp} {vs : List V} {ws : List DL.W} (l : RepL K r H vs ws) : ∀ perm : List Nat, RepL K r H (permL perm vs) (permL perm ws)
  | [] => .nil
  | i :: perm => by
    unfold permL
    cases h : ws[i]? with
    | none =>
      have h2 : vs[i]? = none := by
        rw [List.getElem?_eq_none_iff, l.length]
        exact List.getElem?_eq_none_iff.mp h
      rw [List.filterMap_cons_none h, List.filterMap_cons_none h2]
      exact RepL.perm l perm
    | some v =>
      obtain ⟨u, h2, q⟩ := l.get h
      rw [List.filterMap_cons_some h, List.filterMap_cons_some h2]
      exact .cons q (RepL.perm l perm)
open Classical in
theorem kb_of {K : Fg} {x : Str} {st : Stmt} {ps ks : List Str} {n : Nat} {perm : List Nat} {fd : FuncData} (h : KPat x st ps n ks perm) (hf : ∃ (kV doc pm : Value) (an : Option Addr) (cdv ct : Value), fd = PySem.W.fnOf x x (defArgs st) (defBody st) (defScope st) .none kV doc pm an cdv ct) :
    KBinds K fd ps ks (fun us ws => if us.length = n ∧ ws.length = ks.length then permL perm (us ++ ws) else []) (fun us ws => if us.length = n ∧ ws.length = ks.length then permL perm (us ++ ws) else []) := by
  obtain ⟨kV, doc, pm, an, cdv, ct, rfl⟩ := hf
  refine ⟨fun s us ws _ hl => ?_, fun {vs us zs ws} r1 r2 => ?_⟩
  · by_cases c : us.length = n ∧ ws.length = ks.length
    · rw [if_pos c]
      exact .of_eq (h.bind kV doc pm an cdv ct us ws c.1 c.2)
    · rw [if_neg c] at hl
      exact absurd (List.eq_nil_of_length_eq_zero hl.symm) h.ne
  · rw [r1.length, r2.length]
    split
    · exact valsPerm (r1.append r2) perm
    · exact .nil
section
variable {X : Cx} {pos p kpos : Pos} {e : Expr} {es : List Expr} {kws : List Keyword} {x : Str} {de : DE} {da dk : DA} {k j : Nat} {st : Stmt} {ps ks : List Str} {F : DSpec}
theorem c_def (G : TDef X.prog X.w X.K X.mg X.base k x st ps F) (hr : Room j X.A) (ha : XA X (e :: es) da) (hk : k ≤ j := by decide) (hg : Gl X x := by rfl)
    (hdb : (x == ("__debug__" : Str)) = false := by decide) (he : starEach (e :: es) X.env = (false, eval e X.env) :: starEach es X.env := by rfl) (hpl : (backTo pos (starEach es X.env)).any (·.1) = false := by rfl) :
    XE X (.Call (.Name x p) (e :: es) [] pos) (dCall F da) := by
  obtain ⟨f, fd, h1, h2, h3, h4, _⟩ := G.ex
  exact xe_call h1 (hr.mono hk) hg h2 h3 h4 ha hdb he hpl
theorem c_def0 (G : TDef X.prog X.w X.K X.mg X.base k x st ps F) (hr : Room j X.A) (hk : k ≤ j := by decide) (hg : Gl X x := by rfl) (hdb : (x == ("__debug__" : Str)) = false := by decide) : XE X (.Call (.Name x p) [] [] pos) (dCall F aNil) := by
  obtain ⟨f, fd, h1, h2, h3, h4, _⟩ := G.ex
  exact xe_call0 h1 (hr.mono hk) hg h2 h3 h4 hdb
structure XK (X : Cx) (kws : List Keyword) (d : DA) : Prop where
  ex : ∃ t, PK X kws t ∧ SimA X.K t d
theorem xk_nil : XK X [] aNil := ⟨_, pk_nil, fun r H S s env Q Q0 R E d k => k r H S [] [] .refl R .nil d⟩
theorem xk_cons {nm : Option Str} (ha : XE X e de) (hr : XK X kws dk) : XK X (⟨nm, e, kpos⟩ :: kws) (aCons de dk) := by
  obtain ⟨ta, pa, sa⟩ := ha.ex
  obtain ⟨tr, pr, sr⟩ := hr.ex
  exact ⟨_, pk_cons pa pr, sim_cons sa sr⟩
theorem pe_callK0 {CX : CXT} {f : Addr} {fd : FuncData} {sp : Sp} {E : L2.XK} {tk : TA} {g : List Value → List Value → List Value} {gV : List V → List V → List V} (G : FnOk X.prog X.w X.K X.mg X.base CX k f fd ps sp) (hr : Room k X.A) (hg : Gl X x) (hm : X.mg x = some (.ref f)) (hk : PySem.W.keepIn X.K (.ref f) = true) (hb : KBinds X.K fd ps ks g gV) (hx : Passes CX X E)
    (hkw : PK X kws tk) (hall : (backToKw pos (keywordEach kws X.env)).all (·.1.isSome) = true := by rfl) (hks : (backToKw pos (keywordEach kws X.env)).filterMap (·.1) = ks := by rfl)
    (hdb : (x == ("__debug__" : Str)) = false := by decide) (hpl : ((backTo pos (starEach [] X.env)).any (·.1) || (backToKw pos (keywordEach kws X.env)).any (·.1.isNone)) = false := by rfl) :
    PE X (.Call (.Name x p) [] kws pos) (tCallK sp gV E tNil tk) := by
  refine ⟨fun pins s σ H Q I h => ?_⟩
  refine wpAny_Call_Name_kw (ld_glob I hg hm ?_ hdb)
  refine PySem.W.callWith_KW0 (h₀ := X.base) I.ok.mod.kin hk hall (thn (hkw.run pos pins s σ H _ I h) fun ws s2 ⟨zs, H2, I2, rz, q2⟩ => ⟨I2.kIn, ?_⟩) hpl
  rw [hks]
  exact run_fnk (us := []) (vs := []) G hr hb hx I2 .nil rz q2
def dCallK (F : DSpec) (perm : List Nat) (n m : Nat) (da dk : DA) : DE := fun env S Q => da env S fun us S1 => dk env S1 fun ws S2 => us.length = n ∧ ws.length = m ∧ F (permL perm (us ++ ws)) S2 Q
theorem sim_callK {K : Fg} {n : Nat} {perm : List Nat} {ta tk : TA} {m : Nat} (hm : m = ks.length) (sa : SimA K ta da) (sk : SimA K tk dk) :
    Sim K (tCallK (spOf K F) (fun us ws => if us.length = n ∧ ws.length = ks.length then permL perm (us ++ ws) else []) E0 ta tk) (dCallK F perm n m da dk) := fun r H S s env Q Q0 R E d k =>
  sa r H S s env _ _ R E d fun r1 H1 S1 vs ws e1 R1 q1 d1 => sk r1 H1 S1 s env _ _ R1 (E.mono e1) d1 fun r2 H2 S2 us zs e2 R2 q2 d2 => by
    have l1 := q1.length
    have l2 := q2.length
    refine ⟨r2, S2, permL perm (ws ++ zs), Q, R2, ?_, d2.2.2, fun r3 H3 S3 v w e3 => k r3 H3 S3 v w ((e1.trans e2).trans e3)⟩
    show RepL K r2 H2 (if vs.length = n ∧ us.length = ks.length then permL perm (vs ++ us) else []) _
    rw [if_pos ⟨by rw [l1]; exact d2.1, by rw [l2, ← hm]; exact d2.2.1⟩]
    exact ((q1.mono e2).app q2).perm perm
theorem c_defk {n m : Nat} {perm : List Nat} (G : TDef X.prog X.w X.K X.mg X.base k x st ps F) (kb : KPat x st ps n ks perm) (hr : Room j X.A) (ha : XA X (e :: es) da) (hkw : XK X kws dk) (hm : m = ks.length := by rfl) (hk : k ≤ j := by decide) (hg : Gl X x := by rfl)
    (hall : (backToKw pos (keywordEach kws X.env)).all (·.1.isSome) = true := by rfl) (hks : (backToKw pos (keywordEach kws X.env)).filterMap (·.1) = ks := by rfl)
    (hdb : (x == ("__debug__" : Str)) = false := by decide) (he : starEach (e :: es) X.env = (false, eval e X.env) :: starEach es X.env := by rfl)
    (hpl : ((backTo pos (starEach (e :: es) X.env)).any (·.1) || (backToKw pos (keywordEach kws X.env)).any (·.1.isNone)) = false := by rfl) : XE X (.Call (.Name x p) (e :: es) kws pos) (dCallK F perm n m da dk) := by
  obtain ⟨f, fd, h1, h2, h3, h4, h5⟩ := G.ex
  obtain ⟨ta, pa, sa⟩ := ha.ex
  obtain ⟨tk, pk, sk⟩ := hkw.ex
  exact ⟨_, pe_callK h1 (hr.mono hk) hg h2 h3 (kb_of kb h5) pass0 pa pk hall hks hdb he hpl, sim_callK hm sa sk⟩
theorem c_defk0 {n m : Nat} {perm : List Nat} (G : TDef X.prog X.w X.K X.mg X.base k x st ps F) (kb : KPat x st ps n ks perm) (hr : Room j X.A) (hkw : XK X kws dk) (hm : m = ks.length := by rfl) (hk : k ≤ j := by decide) (hg : Gl X x := by rfl)
    (hall : (backToKw pos (keywordEach kws X.env)).all (·.1.isSome) = true := by rfl) (hks : (backToKw pos (keywordEach kws X.env)).filterMap (·.1) = ks := by rfl)
    (hdb : (x == ("__debug__" : Str)) = false := by decide) (hpl : ((backTo pos (starEach [] X.env)).any (·.1) || (backToKw pos (keywordEach kws X.env)).any (·.1.isNone)) = false := by rfl) : XE X (.Call (.Name x p) [] kws pos) (dCallK F perm n m aNil dk) := by
  obtain ⟨f, fd, h1, h2, h3, h4, h5⟩ := G.ex
  obtain ⟨tk, pk, sk⟩ := hkw.ex
  exact ⟨_, pe_callK0 h1 (hr.mono hk) hg h2 h3 (kb_of kb h5) pass0 pk hall hks hdb hpl, sim_callK hm (fun r H S s env Q Q0 R E d k => k r H S [] [] .refl R .nil d) sk⟩
end
/-- a def as it stands behind the top -/
structure TFun (K : Fg) (mg : Str → Option Value) (x : Str) (st : Stmt) (ps : List Str) : Prop where
  ex : ∃ f fd, Fun K x x st f fd ∧ mg x = some (.ref f) ∧ Binds K fd ps []
section
variable {P : Program} {w : World} {K : Fg} {mg : Str → Option Value} {base : Heap}
abbrev endsW (n : Nat) (Q : WK) : DEnds := { nx := fun _ S' => Ends0 n Q .non S', rt := Ends0 n Q, bk := fun _ _ => False, ct := fun _ _ => False }
theorem TFun.ok {x : Str} {st : Stmt} {N ps : List Str} {k : Nat} {F : DSpec} {d : DS} (T : TFun K mg x st ps) (Sc : FnScope N ps (defScope st))
    (der : ∀ (f : Addr) (cdv : Value) (A : Around) (outer : List PySem.Env) (s : Shared) (H : Hp) (E : L2.XK), Room k (A.deeper (envOfC x (defScope st) s.heap.objs.size f cdv)) → XSs (cxOf CX0 P w K mg base N x (defScope st) f cdv A outer s H E).nox (defBody st) d)
    (len : ∀ ws S Q, F ws S Q → ws.length = ps.length) (vc : ∀ ws S Q, Closed S → F ws S Q → d (endsW S.length Q) (startW N.length ws) S) : TDef P w K mg base (k + 1) x st ps F := by
  obtain ⟨f, fd, h1, h2, h3⟩ := T.ex
  obtain ⟨_, _, kV, doc, pm, an, cdv, ct, _, e, _⟩ := h1.ex
  exact ⟨f, fd, fn_d h1 Sc len fun cdv A outer s H E hr => ⟨d, der f cdv A outer s H E hr, vc⟩, h2, h1.kp, h3, kV, doc, pm, an, cdv, ct, e⟩
end
end DL

/-! DLf: the denotations' equations, for rewriting. -/
namespace DL
open PySem PySem.Spec PyProof.Rows L2
section
variable {D : DEnds} {env : Slots} {S : Sto} {Q : WK} {QT : Bool → Sto → Prop} {QA : List DL.W → Sto → Prop} {QE : Slots → Sto → Prop} {t u : DS} {c : DT} {da db dd : DE} {dr : DA} {g : DG} {i j : Nat}
theorem e_seq : dSeq t u D env S = t { D with nx := u D } env S := rfl
theorem e_asg : dAsg da g D env S = da env S fun w S1 => g w env S1 D.nx := rfl
theorem e_nm {w : DL.W} : gNm i w env S QE = QE (env.set i (some w)) S := rfl
theorem e_op {d : DL.W → DL.W → Sto → WK → Prop} : dOp d da db env S Q = da env S fun x S1 => db env S1 fun y S2 => d x y S2 Q := rfl
theorem e_un {d : DL.W → Sto → WK → Prop} : dUn d da env S Q = da env S fun x S1 => d x S1 Q := rfl
theorem e_cb {d : List DL.W → Sto → WK → Prop} : dCB d dr env S Q = dr env S fun ws S1 => d ws S1 Q := rfl
theorem e_c {w : DL.W} : dC w env S Q = Q w S := rfl
theorem e_var {w : DL.W} (h : env[i]? = some (some w)) : dVar i env S Q = Q w S := by
  unfold dVar
  rw [h]
  exact propext ⟨fun ⟨w', e, q⟩ => by cases e; exact q, fun q => ⟨w, rfl, q⟩⟩
theorem e_ifs : dIfS c t u D env S = c env S fun b S1 => if b = true then t D env S1 else u D env S1 := rfl
theorem e_tru : dTru da env S QT = da env S fun w S1 => vTru w S1 fun b => QT b S1 := rfl
theorem e_B : dB da env S QT = da env S fun w S1 => ∃ c, w = .bl c ∧ QT c S1 := rfl
theorem e_drop : dDrop da D env S = da env S fun _ S1 => D.nx env S1 := rfl
theorem e_bm {T : String} {d : DL.W → List DL.W → Sto → WK → Prop} : dBM T d da dr env S Q = da env S fun x S1 => vTy T x S1 ∧ dr env S1 fun ws S2 => d x ws S2 Q := rfl
theorem e_bm0 {T : String} {d : DL.W → List DL.W → Sto → WK → Prop} : dBM0 T d da env S Q = da env S fun x S1 => vTy T x S1 ∧ d x [] S1 Q := rfl
theorem e_ret : dRet da D env S = da env S D.rt := rfl
theorem e_retN : dRetN D env S = D.rt .non S := rfl
theorem e_next : dNext D env S = D.nx env S := rfl
theorem e_break : dBreak D env S = D.bk env S := rfl
theorem e_cont : dCont D env S = D.ct env S := rfl
theorem e_nil : aNil env S QA = QA [] S := rfl
theorem e_cons : aCons da dr env S QA = da env S fun w S1 => dr env S1 fun ws S2 => QA (w :: ws) S2 := rfl
theorem e_tup : dTup dr env S Q = dr env S fun ws S1 => ws.length ≤ sizeLine ∧ Q (.tup ws) S1 := rfl
theorem e_lst : dLst dr env S Q = dr env S fun ws S1 => ws.length ≤ sizeLine ∧ Q (.ref S1.length) (S1 ++ [.lst ws]) := rfl
theorem e_sl {d : DL.W → Option Int → Option Int → Sto → WK → Prop} {dl dh : DO} : dSl d da dl dh env S Q = da env S fun x S1 => dl env S1 fun l S2 => dh env S2 fun u S3 => d x l u S3 Q := rfl
theorem e_onone {q : Option Int → Sto → Prop} : oNone env S q = q none S := rfl
theorem e_osome {q : Option Int → Sto → Prop} : oSome da env S q = da env S fun w S1 => ∃ i, w = .int i ∧ q (some i) S1 := rfl
theorem e_gsub {d : DL.W → DL.W → DL.W → Sto → (Sto → Prop) → Prop} {w : DL.W} : gSb da db d w env S QE = da env S fun o S1 => db env S1 fun i S2 => d o i w S2 fun S3 => QE env S3 := rfl
theorem e_call {F : DSpec} : dCall F dr env S Q = dr env S fun ws S1 => F ws S1 Q := rfl
theorem e_callk {F : DSpec} {perm : List Nat} {n m : Nat} {dk : DA} : dCallK F perm n m dr dk env S Q = dr env S fun us S1 => dk env S1 fun ws S2 => us.length = n ∧ ws.length = m ∧ F (permL perm (us ++ ws)) S2 Q := rfl
theorem e_and {b : DT} : dAndT c b env S QT = c env S fun k S1 => if k = true then b env S1 QT else QT false S1 := rfl
theorem e_or {b : DT} : dOrT c b env S QT = c env S fun k S1 => if k = true then QT true S1 else b env S1 QT := rfl
theorem e_not : dNotT c env S QT = c env S fun k S1 => QT (!k) S1 := rfl
theorem e_andv : dAndV da db env S Q = da env S fun w S1 => ∃ c, w = .bl c ∧ if c = true then db env S1 Q else Q (.bl false) S1 := rfl
theorem e_orv : dOrV da db env S Q = da env S fun w S1 => ∃ c, w = .bl c ∧ if c = true then Q (.bl true) S1 else db env S1 Q := rfl
theorem e_notv : dNotV da env S Q = da env S fun w S1 => ∃ c, w = .bl c ∧ Q (.bl (!c)) S1 := rfl
theorem e_if : dIf c da db env S Q = c env S fun k S1 => if k = true then da env S1 Q else db env S1 Q := rfl
theorem e_par {i j : Nat} : dPar i j dr D env S = dr env S fun ws S1 => ∃ v w, ws = [v, w] ∧ D.nx ((env.set i (some v)).set j (some w)) S1 := rfl
theorem e_for {di : DI} : dFor di g t D env S = di env S fun its still S1 => forW g t still its D env S1 := rfl
theorem e_comp {di : DI} {tt : DT} {vs : List Nat} : dComp di g tt dd vs env S Q = di env S fun its still S1 => compW g tt dd vs still env Q its [] S1 := rfl
theorem e_iseq {q : List DL.W → (Sto → Prop) → Sto → Prop} : iSeq da env S q = da env S fun w S1 => vSeqI w S1 q := rfl
theorem e_rng1 {q : List DL.W → (Sto → Prop) → Sto → Prop} : DL.iRng1 dr env S q = dr env S fun ws S1 => ∃ j : Int, ws = [.int j] ∧ -(2 ^ 62) ≤ j ∧ j < 2 ^ 62 ∧ q (rngW 0 j.toNat) (fun _ => True) S1 := rfl
theorem e_yes : dYes env S QT = QT true S := rfl
theorem e_gtp {n : Nat} {gs : DGs} {ws : List DL.W} : gTp n gs (.tup ws) env S QE = (ws.length = n ∧ gs ws env S QE) :=
  propext ⟨fun ⟨ws', e, h, q⟩ => by cases e; exact ⟨h, q⟩, fun ⟨h, q⟩ => ⟨ws, rfl, h, q⟩⟩
theorem e_gc {gs : DGs} {w : DL.W} {ws : List DL.W} : gC g gs (w :: ws) env S QE = g w env S fun env1 S1 => gs ws env1 S1 QE :=
  propext ⟨fun ⟨w', ws', e, q⟩ => by cases e; exact q, fun q => ⟨w, ws, rfl, q⟩⟩
theorem e_gn0 : gN0 [] env S QE = QE env S := propext ⟨fun ⟨_, q⟩ => q, fun q => ⟨rfl, q⟩⟩
/-! values -/
theorem e_addI {i j : Int} : vAdd (.int i) (.int j) S Q = Q (.int (i + j)) S := rfl
theorem e_addS {a b : Str} : vAdd (.str a) (.str b) S Q = (a.length + b.length ≤ sizeLine ∧ Q (.str (a ++ b)) S) := rfl
theorem e_addT {a b : List DL.W} : vAdd (.tup a) (.tup b) S Q = (a.length + b.length ≤ sizeLine ∧ Q (.tup (a ++ b)) S) := rfl
theorem e_addL {a b : List DL.W} (h : S[i]? = some (.lst a)) (h' : S[j]? = some (.lst b)) : vAdd (.ref i) (.ref j) S Q = (a.length + b.length ≤ sizeLine ∧ Q (.ref S.length) (S ++ [.lst (a ++ b)])) := by
  show (∃ a b, S[i]? = some (.lst a) ∧ S[j]? = some (.lst b) ∧ a.length + b.length ≤ sizeLine ∧ Q (.ref S.length) (S ++ [.lst (a ++ b)])) = _
  rw [h, h']
  exact propext ⟨fun ⟨a', b', e1, e2, q⟩ => by cases e1; cases e2; exact q, fun q => ⟨a, b, rfl, rfl, q⟩⟩
theorem e_i20 {f : Int → Int → DL.W} {a b : Int} : vI20 f (.int a) (.int b) S Q = Q (f a b) S := rfl
theorem e_i2 {C : Int → Int → Prop} {f : Int → Int → DL.W} {a b : Int} : vI2 C f (.int a) (.int b) S Q = (C a b ∧ Q (f a b) S) := rfl
theorem e_neg {a : Int} : vNeg (.int a) S Q = Q (.int (-a)) S := rfl
theorem e_cmpI {f : Int → Int → Bool} {f' : Str → Str → Bool} {a b : Int} : vCmp f f' (.int a) (.int b) S Q = Q (.bl (f a b)) S := rfl
theorem e_cmpS {f : Int → Int → Bool} {f' : Str → Str → Bool} {a b : Str} : vCmp f f' (.str a) (.str b) S Q = Q (.bl (f' a b)) S := rfl
theorem e_eqI {n : Bool} {a b : Int} : vEqG n (.int a) (.int b) S Q = Q (.bl (n ^^ decide (a = b))) S := rfl
theorem e_eqS {n : Bool} {a b : Str} : vEqG n (.str a) (.str b) S Q = Q (.bl (n ^^ decide (a = b))) S := rfl
theorem e_eqB {n : Bool} {a b : Bool} : vEqG n (.bl a) (.bl b) S Q = Q (.bl (n ^^ decide (a = b))) S := rfl
theorem e_ixT {ws : List DL.W} {k : Int} {w : DL.W} (h : atI ws k = some w) : vIx (.tup ws) (.int k) S Q = Q w S := by
  show (∃ w, atI ws k = some w ∧ Q w S) = _
  rw [h]
  exact propext ⟨fun ⟨w', e, q⟩ => by cases e; exact q, fun q => ⟨w, rfl, q⟩⟩
theorem e_ixLit {ws : List DL.W} {k : Int} {w : DL.W} (h : atI ws k = some w) : vIx (.lit ws) (.int k) S Q = Q w S := by
  show (∃ w, atI ws k = some w ∧ Q w S) = _
  rw [h]
  exact propext ⟨fun ⟨w', e, q⟩ => by cases e; exact q, fun q => ⟨w, rfl, q⟩⟩
theorem e_ixL {ws : List DL.W} {k : Int} {w : DL.W} (h0 : S[i]? = some (.lst ws)) (h : atI ws k = some w) : vIx (.ref i) (.int k) S Q = Q w S := by
  show (∃ ws w, S[i]? = some (.lst ws) ∧ atI ws k = some w ∧ Q w S) = _
  rw [h0]
  exact propext ⟨fun ⟨ws', w', e, e2, q⟩ => by cases e; rw [h] at e2; cases e2; exact q, fun q => ⟨ws, w, rfl, h, q⟩⟩
theorem e_ixS {z : Str} {k : Int} {c : Nat} (h : atI z.cps.toList k = some c) : vIx (.str z) (.int k) S Q = (z.length ≤ sizeLine ∧ Q (.str ⟨#[c]⟩) S) := by
  show (∃ c, z.length ≤ sizeLine ∧ atI z.cps.toList k = some c ∧ Q (.str ⟨#[c]⟩) S) = _
  rw [h]
  exact propext ⟨fun ⟨c', e, e2, q⟩ => by cases e2; exact ⟨e, q⟩, fun q => ⟨c, q.1, rfl, q.2⟩⟩
theorem e_set {ws : List DL.W} {k : Int} {m : Nat} {w : DL.W} {q : Sto → Prop} (h0 : S[i]? = some (.lst ws)) (h : ixN ws.length k = some m) : vSet (.ref i) (.int k) w S q = q (S.set i (.lst (ws.set m w))) := by
  show (∃ ws j, S[i]? = some (.lst ws) ∧ ixN ws.length k = some j ∧ q (S.set i (.lst (ws.set j w)))) = _
  rw [h0]
  exact propext ⟨fun ⟨ws', j', e, e2, q⟩ => by cases e; rw [h] at e2; cases e2; exact q, fun q => ⟨ws, m, rfl, h, q⟩⟩
theorem e_slT {ws : List DL.W} {lo hi : Option Int} : vSl (.tup ws) lo hi S Q = Q (.tup (cutW ws lo hi)) S := rfl
theorem e_slLit {ws : List DL.W} {lo hi : Option Int} : vSl (.lit ws) lo hi S Q = Q (.ref S.length) (S ++ [.lst (cutW ws lo hi)]) := rfl
theorem e_slS {z : Str} {lo hi : Option Int} : vSl (.str z) lo hi S Q = (z.length ≤ sizeLine ∧ Q (.str (cutS z lo hi)) S) := rfl
theorem e_slL {ws : List DL.W} {lo hi : Option Int} (h : S[i]? = some (.lst ws)) : vSl (.ref i) lo hi S Q = Q (.ref S.length) (S ++ [.lst (cutW ws lo hi)]) := by
  show (∃ ws, S[i]? = some (.lst ws) ∧ Q (.ref S.length) (S ++ [.lst (cutW ws lo hi)])) = _
  rw [h]
  exact propext ⟨fun ⟨ws', e, q⟩ => by cases e; exact q, fun q => ⟨ws, rfl, q⟩⟩
theorem e_lenS {z : Str} : vLen [.str z] S Q = (z.length ≤ sizeLine ∧ Q (.int z.length) S) := rfl
theorem ex_seq {p : List DL.W → Prop} {w : DL.W} {ws : List DL.W} (h : seqOf S w = some ws) : (∃ us, seqOf S w = some us ∧ p us) = p ws := by
  rw [h]
  exact propext ⟨fun ⟨ws', e, q⟩ => by cases e; exact q, fun q => ⟨ws, rfl, q⟩⟩
theorem e_lenT {ws : List DL.W} : vLen [.tup ws] S Q = Q (.int ws.length) S := ex_seq (p := fun us => Q (.int us.length) S) rfl
theorem e_lenLit {ws : List DL.W} : vLen [.lit ws] S Q = Q (.int ws.length) S := ex_seq (p := fun us => Q (.int us.length) S) rfl
theorem e_lenL {ws : List DL.W} (h : S[i]? = some (.lst ws)) : vLen [.ref i] S Q = Q (.int ws.length) S := ex_seq (p := fun us => Q (.int us.length) S) (seqOf_ref h)
theorem e_i1 {f : Int → DL.W} {a : Int} : vI1 f [.int a] S Q = Q (f a) S := rfl
theorem e_intI {a : Int} : vIntOf [.int a] S Q = Q (.int a) S := rfl
theorem e_intB {a : Bool} : vIntOf [.bl a] S Q = Q (.int (if a then 1 else 0)) S := rfl
theorem e_strI {a : Int} : vStrOf [.int a] S Q = (a.natAbs.log2 < 1920 ∧ Q (.str (toString a)) S) := rfl
theorem e_strS {a : Str} : vStrOf [.str a] S Q = Q (.str a) S := rfl
theorem e_listT {ws : List DL.W} : vList [.tup ws] S Q = Q (.ref S.length) (S ++ [.lst ws]) := ex_seq (p := fun us : List DL.W => Q (DL.W.ref S.length) (S ++ [O.lst us])) rfl
theorem e_listLit {ws : List DL.W} : vList [.lit ws] S Q = Q (.ref S.length) (S ++ [.lst ws]) := ex_seq (p := fun us : List DL.W => Q (DL.W.ref S.length) (S ++ [O.lst us])) rfl
theorem e_listL {ws : List DL.W} (h : S[i]? = some (.lst ws)) : vList [.ref i] S Q = Q (.ref S.length) (S ++ [.lst ws]) := ex_seq (p := fun us : List DL.W => Q (DL.W.ref S.length) (S ++ [O.lst us])) (seqOf_ref h)
theorem e_tupleT {ws : List DL.W} : vTuple [.tup ws] S Q = Q (.tup ws) S := ex_seq (p := fun us => Q (.tup us) S) rfl
theorem e_tupleL {ws : List DL.W} (h : S[i]? = some (.lst ws)) : vTuple [.ref i] S Q = Q (.tup ws) S := ex_seq (p := fun us => Q (.tup us) S) (seqOf_ref h)
theorem e_append {w : DL.W} {ws : List DL.W} (h : S[i]? = some (.lst ws)) : vAppend (.ref i) [w] S Q = (ws.length < sizeLine ∧ Q .non (S.set i (.lst (ws ++ [w])))) := by
  show (∃ zs, S[i]? = some (.lst zs) ∧ zs.length < sizeLine ∧ Q .non (S.set i (.lst (zs ++ [w])))) = _
  rw [h]
  exact propext ⟨fun ⟨ws', e, q⟩ => by cases e; exact q, fun q => ⟨ws, rfl, q⟩⟩
theorem e_pop0 {w : DL.W} {ws : List DL.W} (h : S[i]? = some (.lst (ws ++ [w]))) : vPop0 (.ref i) [] S Q = Q w (S.set i (.lst ws)) := by
  show (∃ zs y, S[i]? = some (.lst zs) ∧ zs[zs.length - 1]? = some y ∧ Q y (S.set i (.lst zs.dropLast))) = _
  rw [h]
  have e1 : (ws ++ [w])[(ws ++ [w]).length - 1]? = some w := by simp
  exact propext ⟨fun ⟨zs, y, e, e2, q⟩ => by cases e; rw [e1] at e2; cases e2; rw [List.dropLast_concat] at q; exact q, fun q => ⟨ws ++ [w], w, rfl, e1, by rw [List.dropLast_concat]; exact q⟩⟩
theorem e_tyL {ws : List DL.W} (h : S[i]? = some (.lst ws)) : vTy "list" (.ref i) S = True := by
  refine eq_true ?_
  exact .inl ⟨rfl, ws, h⟩
theorem e_tyS {z : Str} : vTy "str" (.str z) S = True := eq_true rfl
theorem e_truL {ws : List DL.W} {q : Bool → Prop} (h : S[i]? = some (.lst ws)) : vTru (.ref i) S q = q (!ws.isEmpty) := by
  show ((∃ ws, S[i]? = some (.lst ws) ∧ q (!ws.isEmpty)) ∨ ∃ kvs, S[i]? = some (.dk kvs) ∧ q (!kvs.isEmpty)) = _
  rw [h]
  exact propext ⟨fun o => o.elim (fun ⟨ws', e, q⟩ => by cases e; exact q) (fun ⟨_, e, _⟩ => by cases e), fun q => .inl ⟨ws, rfl, q⟩⟩
theorem e_truT {ws : List DL.W} {q : Bool → Prop} : vTru (.tup ws) S q = q (!ws.isEmpty) := rfl
theorem e_truB {b : Bool} {q : Bool → Prop} : vTru (.bl b) S q = q b := rfl
theorem e_truI {a : Int} {q : Bool → Prop} : vTru (.int a) S q = q (a != 0) := rfl
theorem e_truS {z : Str} {q : Bool → Prop} : vTru (.str z) S q = (z.length ≤ sizeLine ∧ q ((z.length : Int) != 0)) := rfl
theorem e_truN {q : Bool → Prop} : vTru .non S q = q false := rfl
theorem e_seqT {ws : List DL.W} {q : List DL.W → (Sto → Prop) → Sto → Prop} : vSeqI (.tup ws) S q = q ws (fun _ => True) S := rfl
theorem e_seqLit {ws : List DL.W} {q : List DL.W → (Sto → Prop) → Sto → Prop} : vSeqI (.lit ws) S q = q ws (fun _ => True) S := rfl
theorem e_seqL {ws : List DL.W} {q : List DL.W → (Sto → Prop) → Sto → Prop} (h : S[i]? = some (.lst ws)) : vSeqI (.ref i) S q = q ws (fun S' => S'[i]? = some (.lst ws)) S := by
  show (∃ ws, S[i]? = some (.lst ws) ∧ q ws (fun S' => S'[i]? = some (.lst ws)) S) = _
  rw [h]
  exact propext ⟨fun ⟨ws', e, q⟩ => by cases e; exact q, fun q => ⟨ws, rfl, q⟩⟩
theorem e_in {n : Bool} {x : DL.W} {ws : List DL.W} (h : S[i]? = some (.lst ws)) : vIn n x (.ref i) S Q = (flW x = true ∧ ws.all flW = true ∧ Q (.bl (n ^^ inW x ws)) S) := ex_seq (p := fun us => flW x = true ∧ us.all flW = true ∧ Q (.bl (n ^^ inW x us)) S) (seqOf_ref h)
theorem e_inT {n : Bool} {x : DL.W} {ws : List DL.W} : vIn n x (.tup ws) S Q = (flW x = true ∧ ws.all flW = true ∧ Q (.bl (n ^^ inW x ws)) S) := ex_seq (p := fun us => flW x = true ∧ us.all flW = true ∧ Q (.bl (n ^^ inW x us)) S) rfl
theorem e_isi {w : DL.W} {n t : String} {b : Bool} (h : tyW S w = some t) (h' : kitB t n = some b) : vIsi [w, .raw (.ty n)] S Q = Q (.bl b) S := by
  show (∃ t b, tyW S w = some t ∧ kitB t n = some b ∧ Q (.bl b) S) = _
  rw [h]
  exact propext ⟨fun ⟨t', b', e, e2, q⟩ => by cases e; rw [h'] at e2; cases e2; exact q, fun q => ⟨t, b, rfl, h', q⟩⟩
end
/-! places -/
theorem atI_0 {α : Type} {x : α} {xs : List α} : atI (x :: xs) 0 = some x := atI_nat (j := 0) rfl
theorem atI_1 {α : Type} {x y : α} {xs : List α} : atI (x :: y :: xs) 1 = some y := atI_nat (j := 1) rfl
theorem atI_2 {α : Type} {x y z : α} {xs : List α} : atI (x :: y :: z :: xs) 2 = some z := atI_nat (j := 2) rfl
theorem atI_3 {α : Type} {x y z u : α} {xs : List α} : atI (x :: y :: z :: u :: xs) 3 = some u := atI_nat (j := 3) rfl
theorem ixN_nat {n j : Nat} (h : j < n) : ixN n (j : Int) = some j := by
  unfold ixN
  rw [if_pos (Int.natCast_nonneg j), if_pos (by omega)]
  rfl
theorem ixN_last {n : Nat} : ixN (n + 1) (-1) = some n := by
  unfold ixN
  rw [if_neg (by decide), if_pos (by omega)]
  congr 1
  omega
theorem ixN_0 {n : Nat} : ixN (n + 1) 0 = some 0 := ixN_nat (j := 0) (by omega)
theorem ixN_1 {n : Nat} : ixN (n + 1 + 1) 1 = some 1 := ixN_nat (j := 1) (by omega)
theorem ixN_11 : ixN (1 + 1) 1 = some 1 := ixN_nat (j := 1) (by omega)
theorem atI_end {α : Type} {xs : List α} {v : α} : atI (xs ++ [v]) (-1) = some v := atI_last xs v
theorem set_end {α : Type} {xs : List α} {v w : α} {n : Nat} (h : n = xs.length) : (xs ++ [v]).set n w = xs ++ [w] := by
  rw [h, List.set_append_right _ _ (Nat.le_refl _), Nat.sub_self]
  rfl
theorem closed_iff {S : Sto} : Closed S ↔ ∀ o ∈ S, o.bnd S.length = true := by
  constructor
  · intro h o ho
    obtain ⟨i, hi, e⟩ := List.mem_iff_getElem.mp ho
    exact h i o (by rw [List.getElem?_eq_getElem hi, e])
  · intro h i o ho
    exact h o (List.mem_of_getElem? ho)
theorem bndL_all (n : Nat) : ∀ ws : List DL.W, W.bndL n ws = ws.all (W.bnd n)
  | [] => rfl
  | w :: ws => by
    show (W.bnd n w && W.bndL n ws) = _
    rw [bndL_all n ws]
    rfl
theorem bndL_ints (n : Nat) (is : List Int) : W.bndL n (is.map DL.W.int) = true := by
  rw [bndL_all, List.all_map]
  exact List.all_eq_true.mpr fun _ _ => rfl
theorem bndL_strs (n : Nat) (is : List Str) : W.bndL n (is.map DL.W.str) = true := by
  rw [bndL_all, List.all_map]
  exact List.all_eq_true.mpr fun _ _ => rfl
mutual
theorem pure_bnd (n : Nat) : ∀ w : DL.W, w.pure = true → w.bnd n = true
  | .non, _ => rfl
  | .bl b, _ => rfl
  | .int i, _ => rfl
  | .str x, _ => rfl
  | .raw v, _ => rfl
  | .ref i, h => Bool.noConfusion (show false = true from h)
  | .tup ws, h => by
    show W.bndL n ws = true
    exact pureL_bnd n ws h
  | .lit ws, h => by
    show W.bndL n ws = true
    exact pureL_bnd n ws h
theorem pureL_bnd (n : Nat) : ∀ ws : List DL.W, W.pureL ws = true → W.bndL n ws = true
  | [], _ => rfl
  | w :: ws, h => by
    have b : (w.pure && W.pureL ws) = true := h
    rw [Bool.and_eq_true] at b
    show (W.bnd n w && W.bndL n ws) = true
    rw [pure_bnd n w b.1, pureL_bnd n ws b.2]
    rfl
end
theorem pureL_all : ∀ ws : List DL.W, W.pureL ws = ws.all W.pure
  | [] => rfl
  | w :: ws => by
    show (w.pure && W.pureL ws) = _
    rw [pureL_all ws]
    rfl
theorem pureL_of {ws : List DL.W} (h : ∀ w ∈ ws, w.pure = true) : W.pureL ws = true := by
  rw [pureL_all]
  exact List.all_eq_true.mpr h
theorem pureL_strs (is : List Str) : W.pureL (is.map DL.W.str) = true := pureL_of fun w h => by
  obtain ⟨a, _, rfl⟩ := List.mem_map.mp h
  rfl
theorem pureL_ints (is : List Int) : W.pureL (is.map DL.W.int) = true := pureL_of fun w h => by
  obtain ⟨a, _, rfl⟩ := List.mem_map.mp h
  rfl
theorem get_app {α : Type} {R L : List α} {k : Nat} : (R ++ L)[R.length + k]? = L[k]? := by
  rw [List.getElem?_append_right (Nat.le_add_right _ _), Nat.add_sub_cancel_left]
theorem get_app0 {α : Type} {R L : List α} : (R ++ L)[R.length]? = L[0]? := get_app (k := 0)
theorem set_app {α : Type} {R L : List α} {k : Nat} {x : α} : (R ++ L).set (R.length + k) x = R ++ L.set k x := by
  rw [List.set_append_right _ _ (Nat.le_add_right _ _), Nat.add_sub_cancel_left]
theorem set_app0 {α : Type} {R L : List α} {x : α} : (R ++ L).set R.length x = R ++ L.set 0 x := set_app (k := 0)
/-- a loop over items, by what holds ahead of each turn -/
theorem forW_inv {g : DG} {b : DS} {still : Sto → Prop} {its : List DL.W} {D : DEnds} {env : Slots} {S : Sto} (I : Nat → Slots → Sto → Prop) (h0 : I 0 env S)
    (hs : ∀ (i : Nat) (x : DL.W) (env : Slots) (S : Sto), its[i]? = some x → I i env S → ∀ N : Slots → Sto → Prop, (∀ e s, I (i + 1) e s → N e s) → still S ∧ g x env S fun env2 S2 => b { D with nx := N, ct := N, bk := D.nx } env2 S2)
    (he : ∀ env S, I its.length env S → still S ∧ D.nx env S) : forW g b still its D env S := by
  have go : ∀ (n i : Nat) (env : Slots) (S : Sto), i + n = its.length → I i env S → forW g b still (its.drop i) D env S := by
    intro n
    induction n with
    | zero =>
      intro i env S hi h
      have hl : its.length ≤ i := by omega
      rw [List.drop_of_length_le hl]
      have e : i = its.length := by omega
      subst e
      exact he env S h
    | succ n ih =>
      intro i env S hi h
      have hl : i < its.length := by omega
      rw [List.drop_eq_getElem_cons hl]
      exact hs i its[i] env S (List.getElem?_eq_getElem hl) h _ fun e s q => ih (i + 1) e s (by omega) q
  exact go its.length 0 env S (by omega) h0
/-- a comprehension, by what holds ahead of each turn of what is made so far and the store -/
theorem compW_inv {g : DG} {tt : DT} {te : DE} {vs : List Nat} {still : Sto → Prop} {env : Slots} {Q : WK} {its : List DL.W} {S : Sto} (I : Nat → List DL.W → Sto → Prop) (h0 : I 0 [] S)
    (hs : ∀ (i : Nat) (x : DL.W) (acc : List DL.W) (S : Sto), its[i]? = some x → I i acc S → ∀ N : List DL.W → Sto → Prop, (∀ a s, I (i + 1) a s → N a s) → still S ∧ g x (wipeW env vs) S fun env2 S2 => tt env2 S2 fun b S3 => if b = true then te env2 S3 fun y S4 => acc.length < sizeLine ∧ N (acc ++ [y]) S4 else N acc S3)
    (he : ∀ acc S, I its.length acc S → still S ∧ Q (.ref S.length) (S ++ [.lst acc])) : compW g tt te vs still env Q its [] S := by
  have go : ∀ (n i : Nat) (acc : List DL.W) (S : Sto), i + n = its.length → I i acc S → compW g tt te vs still env Q (its.drop i) acc S := by
    intro n
    induction n with
    | zero =>
      intro i acc S hi h
      have hl : its.length ≤ i := by omega
      rw [List.drop_of_length_le hl]
      have e : i = its.length := by omega
      subst e
      exact he acc S h
    | succ n ih =>
      intro i acc S hi h
      have hl : i < its.length := by omega
      rw [List.drop_eq_getElem_cons hl]
      exact hs i its[i] acc S (List.getElem?_eq_getElem hl) h (compW g tt te vs still env Q (its.drop (i + 1))) fun a s q => ih (i + 1) a s (by omega) q
  exact go its.length 0 [] S (by omega) h0
/-- a comprehension whose element leaves the store as it is -/
theorem compW_map {α : Type} {enc r : α → DL.W} {ts : List α} {g : DG} {tt : DT} {te : DE} {vs : List Nat} {still : Sto → Prop} {env : Slots} {Q : WK} {S : Sto} (st : still S) (hl : ts.length ≤ sizeLine)
    (h : ∀ t ∈ ts, ∀ (N : List DL.W → Sto → Prop) (acc : List DL.W), acc.length < sizeLine → N (acc ++ [r t]) S → g (enc t) (wipeW env vs) S fun env2 S2 => tt env2 S2 fun b S3 => if b = true then te env2 S3 fun y S4 => acc.length < sizeLine ∧ N (acc ++ [y]) S4 else N acc S3)
    (q : Q (.ref S.length) (S ++ [.lst (ts.map r)])) : compW g tt te vs still env Q (ts.map enc) [] S := by
  refine compW_inv (fun i acc S' => S' = S ∧ acc = (ts.take i).map r) ⟨rfl, rfl⟩ ?_ ?_
  · rintro i x acc S' hx ⟨rfl, rfl⟩ N hN
    rw [List.getElem?_map] at hx
    cases ht : ts[i]? with
    | none =>
      rw [ht] at hx
      cases hx
    | some t =>
      rw [ht] at hx
      have e : enc t = x := Option.some.inj hx
      subst e
      have hi := (List.getElem?_eq_some_iff.mp ht).1
      refine ⟨st, h t (List.mem_of_getElem? ht) N _ (by rw [List.length_map, List.length_take]; omega) (hN _ _ ⟨rfl, ?_⟩)⟩
      rw [List.take_add_one, ht, List.map_append]
      rfl
  · rintro acc S' ⟨rfl, rfl⟩
    rw [List.length_map, List.take_length]
    exact ⟨st, q⟩
mutual
theorem ren_pure (f : List Nat) : ∀ w : DL.W, w.pure = true → w.ren f = w
  | .non, _ => rfl
  | .bl b, _ => rfl
  | .int i, _ => rfl
  | .str x, _ => rfl
  | .raw v, _ => rfl
  | .ref i, h => Bool.noConfusion (show false = true from h)
  | .tup ws, h => by
    show W.tup (W.renL f ws) = _
    rw [renL_pure f ws h]
  | .lit ws, h => by
    show W.lit (W.renL f ws) = _
    rw [renL_pure f ws h]
theorem renL_pure (f : List Nat) : ∀ ws : List DL.W, W.pureL ws = true → W.renL f ws = ws
  | [], _ => rfl
  | w :: ws, h => by
    have b : (w.pure && W.pureL ws) = true := h
    rw [Bool.and_eq_true] at b
    show w.ren f :: W.renL f ws = _
    rw [ren_pure f w b.1, renL_pure f ws b.2]
end
mutual
theorem ren_ext {f : List Nat} {n : Nat} (hf : ∀ i, i < n → f[i]? = some i) : ∀ w : DL.W, w.bnd n = true → w.ren f = w
  | .non, _ => rfl
  | .bl b, _ => rfl
  | .int i, _ => rfl
  | .str x, _ => rfl
  | .raw v, _ => rfl
  | .ref i, h => by
    have hi : i < n := of_decide_eq_true h
    show W.ref (f.getD i 0) = _
    rw [List.getD_eq_getElem?_getD, hf i hi]
    rfl
  | .tup ws, h => by
    show W.tup (W.renL f ws) = _
    rw [renL_ext hf ws h]
  | .lit ws, h => by
    show W.lit (W.renL f ws) = _
    rw [renL_ext hf ws h]
theorem renL_ext {f : List Nat} {n : Nat} (hf : ∀ i, i < n → f[i]? = some i) : ∀ ws : List DL.W, W.bndL n ws = true → W.renL f ws = ws
  | [], _ => rfl
  | w :: ws, h => by
    have b : (W.bnd n w && W.bndL n ws) = true := h
    rw [Bool.and_eq_true] at b
    show w.ren f :: W.renL f ws = _
    rw [ren_ext hf w b.1, renL_ext hf ws b.2]
end
theorem O_ren_ext {f : List Nat} {n : Nat} (hf : ∀ i, i < n → f[i]? = some i) : ∀ o : O, o.bnd n = true → o.ren f = o
  | .lst ws, b => by
    show O.lst _ = _
    rw [renL_ext hf ws b]
  | .dk kvs, b => by
    have go : ∀ kvs : List (Key × DL.W), W.bndL n (kvs.map (·.2)) = true → (kvs.map fun kv => (kv.1, kv.2.ren f)) = kvs := by
      intro kvs
      induction kvs with
      | nil => intro _; rfl
      | cons kv r ih =>
        intro b
        have b' : (W.bnd n kv.2 && W.bndL n (r.map (·.2))) = true := b
        rw [Bool.and_eq_true] at b'
        rw [List.map_cons, ih b'.2, DL.ren_ext hf _ b'.1]
    show O.dk _ = _
    rw [go kvs b]
  | .tk ws, b => by
    show O.tk _ = _
    rw [renL_ext hf ws b]
  | .ft ws, b => by
    show O.ft _ = _
    rw [renL_ext hf ws b]
  | .nd P w z kvs, b => by
    have go : ∀ kvs : List (DL.W × DL.W), W.bndL n (kvs.map (·.2)) = true → (kvs.map fun kv => (kv.1, kv.2.ren f)) = kvs := by
      intro kvs
      induction kvs with
      | nil => intro _; rfl
      | cons kv r ih =>
        intro b
        have b' : (W.bnd n kv.2 && W.bndL n (r.map (·.2))) = true := b
        rw [Bool.and_eq_true] at b'
        rw [List.map_cons, ih b'.2, DL.ren_ext hf _ b'.1]
    show O.nd P w z _ = _
    rw [go kvs b]
  | .dt kvs, b => by
    have go : ∀ kvs : List (List Key × DL.W), W.bndL n (kvs.map (·.2)) = true → (kvs.map fun kv => (kv.1, kv.2.ren f)) = kvs := by
      intro kvs
      induction kvs with
      | nil => intro _; rfl
      | cons kv r ih =>
        intro b
        have b' : (W.bnd n kv.2 && W.bndL n (r.map (·.2))) = true := b
        rw [Bool.and_eq_true] at b'
        rw [List.map_cons, ih b'.2, DL.ren_ext hf _ b'.1]
    show O.dt _ = _
    rw [go kvs b]
mutual
theorem bnd_mono {n m : Nat} (h : n ≤ m) : ∀ w : DL.W, w.bnd n = true → w.bnd m = true
  | .non, _ => rfl
  | .bl b, _ => rfl
  | .int i, _ => rfl
  | .str x, _ => rfl
  | .raw v, _ => rfl
  | .ref i, b => decide_eq_true (Nat.lt_of_lt_of_le (of_decide_eq_true b) h)
  | .tup ws, b => by
    show W.bndL m ws = true
    exact bndL_mono h ws b
  | .lit ws, b => by
    show W.bndL m ws = true
    exact bndL_mono h ws b
theorem bndL_mono {n m : Nat} (h : n ≤ m) : ∀ ws : List DL.W, W.bndL n ws = true → W.bndL m ws = true
  | [], _ => rfl
  | w :: ws, b => by
    have b' : (W.bnd n w && W.bndL n ws) = true := b
    rw [Bool.and_eq_true] at b'
    show (W.bnd m w && W.bndL m ws) = true
    rw [bnd_mono h w b'.1, bndL_mono h ws b'.2]
    rfl
end
theorem O_bnd_mono {n m : Nat} (h : n ≤ m) : ∀ o : O, o.bnd n = true → o.bnd m = true
  | .lst ws, b => bndL_mono h ws b
  | .dk kvs, b => bndL_mono h _ b
  | .tk ws, b => bndL_mono h ws b
  | .ft ws, b => bndL_mono h ws b
  | .nd _ _ _ kvs, b => bndL_mono h _ b
  | .dt kvs, b => bndL_mono h _ b
/-- a new list of pure items is handed back, all else that is new is forgotten -/
theorem Ends0.last {n : Nat} {Q : WK} {S T : Sto} {k : Nat} {ws : List DL.W} (hn : n ≤ S.length) (cl : Closed S) (hk : T[k]? = some (.lst ws)) (hp : W.pureL ws = true) (q : Q (.ref S.length) (S ++ [.lst ws])) : Ends0 n Q (.ref (S.length + k)) (S ++ T) := by
  have hf : ∀ i, i < S.length → (List.range S.length ++ [S.length + k])[i]? = some i := fun i hi => by
    rw [List.getElem?_append_left (by rw [List.length_range]; exact hi)]
    exact List.getElem?_range hi
  have hlast : (List.range S.length ++ [S.length + k])[S.length]? = some (S.length + k) := by
    have z := get_app0 (R := List.range S.length) (L := [S.length + k])
    rw [List.length_range] at z
    exact z
  refine ⟨List.range S.length ++ [S.length + k], S ++ [.lst ws], .ref S.length, by simp, fun i hi => hf i (by omega), ?_, fun i o ho => ?_, ?_, ?_, q⟩
  · rw [List.nodup_append]
    refine ⟨List.nodup_range, List.nodup_cons.mpr ⟨List.not_mem_nil, List.nodup_nil⟩, fun a ha b hb => ?_⟩
    rw [List.mem_singleton.mp hb]
    have := List.mem_range.mp ha
    omega
  · have hlen : (List.range S.length ++ [S.length + k]).length = S.length + 1 := by simp
    rw [hlen]
    by_cases hi : i < S.length
    · rw [List.getElem?_append_left hi] at ho
      have b := cl i o ho
      refine ⟨O_bnd_mono (Nat.le_succ _) o b, i, hf i hi, ?_⟩
      rw [List.getElem?_append_left hi, ho, O_ren_ext hf o b]
    · have e : i = S.length := by
        have := (List.getElem?_eq_some_iff.mp ho).1
        rw [List.length_append] at this
        simp at this
        omega
      subst e
      rw [get_app0] at ho
      have e2 : O.lst ws = o := Option.some.inj ho
      subst e2
      refine ⟨pureL_bnd _ ws hp, S.length + k, hlast, ?_⟩
      rw [get_app, hk]
      show some (O.lst ws) = some (O.lst (W.renL _ ws))
      rw [renL_pure _ ws hp]
  · show W.ref _ = W.ref (List.getD _ _ _)
    rw [List.getD_eq_getElem?_getD, hlast]
    rfl
  · refine decide_eq_true ?_
    rw [List.length_append, List.length_range]
    exact Nat.lt_succ_self _
theorem e_join {S : Sto} {Q : WK} {a : Str} {i : Nat} {ys : List Str} (h : S[i]? = some (.lst (ys.map W.str))) (hz : (ys.map (·.length)).sum + ys.length * a.length ≤ 16777216) (q : Q (.str (Txt.join a ys)) S) : vJoin (.str a) [.ref i] S Q :=
  ⟨ys, seqOf_ref h, hz, q⟩
theorem tyW_L {S : Sto} {i : Nat} {ws : List DL.W} (h : S[i]? = some (.lst ws)) : tyW S (.ref i) = some "list" := by simp only [tyW, h]
theorem tyW_S {S : Sto} {z : Str} : tyW S (.str z) = some "str" := rfl
theorem tyW_T {S : Sto} {z : List DL.W} : tyW S (.tup z) = some "tuple" := rfl
theorem tyW_I {S : Sto} {z : Int} : tyW S (.int z) = some "int" := rfl
theorem tyW_B {S : Sto} {z : Bool} : tyW S (.bl z) = some "bool" := rfl
theorem cut_to {ws : List DL.W} {k : Nat} : cutW ws none (some (k : Int)) = ws.take k := by
  unfold cutW
  rw [HT.sIx_none, HT.sIx_nat, List.drop_zero, Nat.sub_zero]
  by_cases h : k ≤ ws.length
  · rw [Nat.min_eq_left h]
  · rw [Nat.min_eq_right (by omega), List.take_length, List.take_of_length_le (by omega)]
theorem cut_from {ws : List DL.W} {k : Nat} : cutW ws (some (k : Int)) none = ws.drop k := by
  unfold cutW
  rw [HT.sIx_none, HT.sIx_nat]
  by_cases h : k ≤ ws.length
  · rw [Nat.min_eq_left h]
    exact List.take_of_length_le (by rw [List.length_drop]; omega)
  · rw [Nat.min_eq_right (by omega), List.drop_length, List.drop_of_length_le (by omega), List.take_nil]
theorem cut_to1 {w : DL.W} {ws : List DL.W} : cutW (w :: ws) none (some 1) = [w] := cut_to (k := 1)
theorem cut_to2 {w u : DL.W} {ws : List DL.W} : cutW (w :: u :: ws) none (some 2) = [w, u] := cut_to (k := 2)
theorem cut_from1 {w : DL.W} {ws : List DL.W} : cutW (w :: ws) (some 1) none = ws := cut_from (k := 1)
theorem wipeW_nil {env : Slots} : wipeW env [] = env := rfl
theorem wipeW_cons {env : Slots} {v : Nat} {vs : List Nat} : wipeW env (v :: vs) = (wipeW env vs).set v none := rfl
theorem kit_ll : kitB "list" "list" = some true := by decide +kernel
theorem kit_ss : kitB "str" "str" = some true := by decide +kernel
theorem kit_tt : kitB "tuple" "tuple" = some true := by decide +kernel
theorem kit_ii : kitB "int" "int" = some true := by decide +kernel
theorem kit_bb : kitB "bool" "bool" = some true := by decide +kernel
theorem kit_bi : kitB "bool" "int" = some true := by decide +kernel
theorem kit_ib : kitB "int" "bool" = some false := by decide +kernel
theorem kit_si : kitB "str" "int" = some false := by decide +kernel
theorem kit_is : kitB "int" "str" = some false := by decide +kernel
end DL

/-! DLg: dicts with int and text keys; in of any kind; max; extend; dict of pairs. -/
namespace DL
open PySem PySem.Spec PyProof.Rows L2
def keyW : W → Option Key
  | .int i => some (.inl i)
  | .str x => some (.inr x)
  | _ => none
def wK : Key → W
  | .inl i => .int i
  | .inr x => .str x
theorem keyW_wK (k : Key) : keyW (wK k) = some k := by cases k <;> rfl
theorem rep_wK {K : Fg} {r : List Addr} {H : Hp} (k : Key) : Rep K r H (kV k) (wK k) := by
  cases k
  · exact .int _
  · exact .str _
theorem rep_key {K : Fg} {r : List Addr} {H : Hp} {v : V} {w : W} {k : Key} (p : Rep K r H v w) (h : keyW w = some k) : v = kV k := by
  cases p <;> first | (cases h; rfl) | cases h
def valW (kvs : List (Key × W)) (k : Key) : Option W := (kvs.find? fun kv => decide (kv.1 = k)).map (·.2)
def putW (kvs : List (Key × W)) (k : Key) (w : W) : List (Key × W) :=
  if (kvs.any fun kv => decide (kv.1 = k)) = true then kvs.map (fun kv => if kv.1 = k then (kv.1, w) else kv) else kvs ++ [(k, w)]
section
variable {K : Fg} {r : List Addr} {H : Hp} {S : Sto}
theorem kv_nil : RelKV K r H [] [] := ⟨rfl, .nil⟩
theorem kv_cons {k : Key} {v : V} {w : W} {vs : List (Key × V)} {ws : List (Key × W)} (h : Rep K r H v w) (l : RelKV K r H vs ws) : RelKV K r H ((k, v) :: vs) ((k, w) :: ws) :=
  ⟨by rw [List.map_cons, List.map_cons, l.1], .cons h l.2⟩
theorem kv_inv {p : Key × W} {vs : List (Key × V)} {ws : List (Key × W)} (l : RelKV K r H vs (p :: ws)) : ∃ v vs', vs = (p.1, v) :: vs' ∧ Rep K r H v p.2 ∧ RelKV K r H vs' ws := by
  obtain ⟨h1, h2⟩ := l
  cases vs with
  | nil => simp at h1
  | cons q vs =>
    rw [List.map_cons, List.map_cons] at h1
    rw [List.map_cons, List.map_cons] at h2
    cases h2 with
    | cons a b =>
      obtain ⟨k, v⟩ := q
      have e1 := (List.cons.inj h1).1
      have e1' : k = p.1 := e1
      exact ⟨v, vs, by rw [← e1'], a, (List.cons.inj h1).2, b⟩
theorem kv_empty {vs : List (Key × V)} (l : RelKV K r H vs []) : vs = [] := by
  have h := l.1
  cases vs with
  | nil => rfl
  | cons a b => simp at h
theorem kv_len {vs : List (Key × V)} {ws : List (Key × W)} (l : RelKV K r H vs ws) : vs.length = ws.length := by
  have h := congrArg List.length l.1
  rwa [List.length_map, List.length_map] at h
theorem kv_val {k : Key} : ∀ {ws : List (Key × W)} {vs : List (Key × V)}, RelKV K r H vs ws → (∀ w, valW ws k = some w → ∃ v, valV vs k = some v ∧ Rep K r H v w) ∧ (valW ws k = none → valV vs k = none)
  | [], vs, l => by
    cases kv_empty l
    exact ⟨fun w h => (by cases h), fun _ => rfl⟩
  | p :: ws, vs, l => by
    obtain ⟨v, vs', rfl, a, b⟩ := kv_inv l
    have ih := kv_val (k := k) b
    by_cases e : p.1 = k
    · have h1 : valW (p :: ws) k = some p.2 := by unfold valW; simp [e]
      have h2 : valV ((p.1, v) :: vs') k = some v := valV_pos e
      rw [h1, h2]
      exact ⟨fun w h => by cases h; exact ⟨v, rfl, a⟩, fun h => by cases h⟩
    · have h1 : valW (p :: ws) k = valW ws k := by unfold valW; simp [e]
      have h2 : valV ((p.1, v) :: vs') k = valV vs' k := valV_neg e
      rw [h1, h2]
      exact ih
theorem kv_any {k : Key} {ws : List (Key × W)} {vs : List (Key × V)} (l : RelKV K r H vs ws) : (vs.any fun kv => decide (kv.1 = k)) = ws.any fun kv => decide (kv.1 = k) := by
  have e1 : (vs.any fun kv => decide (kv.1 = k)) = (vs.map (·.1)).any fun x => decide (x = k) := by rw [List.any_map]; rfl
  have e2 : (ws.any fun kv => decide (kv.1 = k)) = (ws.map (·.1)).any fun x => decide (x = k) := by rw [List.any_map]; rfl
  rw [e1, e2, l.1]
theorem kv_app {vs us : List (Key × V)} {ws zs : List (Key × W)} (l : RelKV K r H vs ws) (m : RelKV K r H us zs) : RelKV K r H (vs ++ us) (ws ++ zs) := by
  refine ⟨by rw [List.map_append, List.map_append, l.1, m.1], ?_⟩
  rw [List.map_append, List.map_append]
  exact l.2.app m.2
theorem kv_repl {k : Key} {v : V} {w : W} (h : Rep K r H v w) : ∀ {ws : List (Key × W)} {vs : List (Key × V)}, RelKV K r H vs ws → RelKV K r H (vs.map fun kv => if kv.1 = k then (kv.1, v) else kv) (ws.map fun kv => if kv.1 = k then (kv.1, w) else kv)
  | [], vs, l => by
    cases kv_empty l
    exact kv_nil
  | p :: ws, vs, l => by
    obtain ⟨u, vs', rfl, a, b⟩ := kv_inv l
    have ih := kv_repl (k := k) h b
    rw [List.map_cons, List.map_cons]
    by_cases e : p.1 = k
    · rw [if_pos e, if_pos e]
      exact kv_cons h ih
    · rw [if_neg e, if_neg e]
      exact kv_cons a ih
theorem kv_put {k : Key} {v : V} {w : W} (h : Rep K r H v w) {ws : List (Key × W)} {vs : List (Key × V)} (l : RelKV K r H vs ws) : RelKV K r H (putK vs k v) (putW ws k w) := by
  unfold putK putW
  rw [kv_any l]
  split
  · exact kv_repl h l
  · exact kv_app l (kv_cons h kv_nil)
theorem kv_mono {r' : List Addr} {H' : Hp} (e : Ext K r H r' H') {ws : List (Key × W)} {vs : List (Key × V)} (l : RelKV K r H vs ws) : RelKV K r' H' vs ws := ⟨l.1, l.2.mono e⟩
theorem new_dk (R : RelS K r H S) {p : Addr} {vs : List (Key × V)} {ws : List (Key × W)} (h : H p = none) (l : RelKV K r H vs ws) : RelS K (r ++ [p]) (upd H p (.dK vs)) (S ++ [.dk ws]) :=
  rel_mem R h ⟨vs, upd_same, kv_mono (ext_mem h) l⟩
theorem wr_dk (R : RelS K r H S) {i : Nat} {p : Addr} {vs vs' : List (Key × V)} {ws' : List (Key × W)} (hp : r[i]? = some p) (h : H p = some (.dK vs)) (l : RelKV K r H vs' ws') : RelS K r (upd H p (.dK vs')) (S.set i (.dk ws')) :=
  rel_wr R hp h trivial ⟨vs', upd_same, kv_mono (ext_wr hp h trivial) l⟩
end
/-! ### d[k] -/
def rIxDk : R2 := fun x y H Q => ∃ p kvs k v, x = .ref p ∧ y = kV k ∧ H p = some (.dK kvs) ∧ valV kvs k = some v ∧ Q v H
section
variable {X : Cx}
theorem ix_dk (hu : X.A.units + 64 < cLine) : IxR X rIxDk := by
  intro value slice pins s σ H x y v u Q I rx ry h hs
  obtain ⟨p, kvs, k, r, rfl, rfl, hp, hv, q⟩ := h
  obtain rfl : v = Value.ref p := rx
  have g : DGet H p (kV k) (some r) := by
    rw [← hv]
    exact .k hp
  exact tail_any (dict_typeIs I g) slot_dict_getitem.lookup (d_getItem (Nat.lt_of_le_of_lt (Nat.add_le_add_left (by decide : 1 ≤ 64) _) hu) I g ry fun w' s3 I3 rw' => ⟨r, H, I3, rw', q⟩) hs
end
def vIxD (x y : W) (S : Sto) (Q : WK) : Prop := match x with
  | .ref p => ∃ kvs k w, S[p]? = some (.dk kvs) ∧ keyW y = some k ∧ valW kvs k = some w ∧ Q w S
  | _ => False
def vIxA (x y : W) (S : Sto) (Q : WK) : Prop := vIx x y S Q ∨ vIxD x y S Q
theorem ixD_sim {K : Fg} : SimR K rIxDk vIxD := by
  intro r H S x y wx wy Q Q0 R px py d k
  cases px <;> try exact d.elim
  rename_i a j h
  obtain ⟨kvs, key, w, h0, h1, h2, q⟩ := d
  obtain ⟨vs, h3, l⟩ := R.obj j _ _ h h0
  obtain ⟨v, hv, pv⟩ := (kv_val l).1 w h2
  exact ⟨a, vs, key, v, rfl, rep_key py h1, h3, hv, k r H S _ _ .refl R pv q⟩
theorem SimR.or {K : Fg} {t t' : R2} {d d' : W → W → Sto → WK → Prop} (h : SimR K t d) (h' : SimR K t' d') : SimR K (fun x y H Q => t x y H Q ∨ t' x y H Q) (fun x y S Q => d x y S Q ∨ d' x y S Q) :=
  fun r H S x y wx wy Q Q0 R px py g k => g.elim (fun g => .inl (h r H S x y wx wy Q Q0 R px py g k)) (fun g => .inr (h' r H S x y wx wy Q Q0 R px py g k))
theorem SimC.or {K : Fg} {t t' : List V → Hp → VK → Prop} {d d' : List W → Sto → WK → Prop} (h : SimC K t d) (h' : SimC K t' d') : SimC K (fun x H Q => t x H Q ∨ t' x H Q) (fun x S Q => d x S Q ∨ d' x S Q) :=
  fun r H S x wx Q Q0 R px g k => g.elim (fun g => .inl (h r H S x wx Q Q0 R px g k)) (fun g => .inr (h' r H S x wx Q Q0 R px g k))
section
variable {X : Cx} {a b e o : Expr} {es : List Expr} {da db d0 : DE} {dA : DA} {pos : Pos}
theorem x_ixA (hu : X.A.units + 64 < cLine) (ha : XE X a da) (hb : XE X b db) (hs : PlainIx b := by exact fun _ _ => rfl) : XE X (.Subscript a b pos) (dOp vIxA da db) := xe_ix (IxR.or ix_seq (ix_dk hu)) (SimR.or ix_sim ixD_sim) ha hb hs
/-! ### d[k] = v -/
def vSetD (o i v : W) (S : Sto) (Q : Sto → Prop) : Prop := match o with
  | .ref p => ∃ kvs k, S[p]? = some (.dk kvs) ∧ keyW i = some k ∧ kvs.length < sizeLine ∧ Q (S.set p (.dk (putW kvs k v)))
  | _ => False
def rSetDk : V → V → V → Hp → (Hp → Prop) → Prop := fun o i v H Q => ∃ p kvs k, o = .ref p ∧ i = kV k ∧ H p = some (.dK kvs) ∧ kvs.length < sizeLine ∧ Q (upd H p (.dK (putK kvs k v)))
theorem set_dkv (hu : X.A.units + 64 < cLine) : PSet X rSetDk := by
  intro pins s σ H o i v ov iv u Q I ro ri rv h
  obtain ⟨p, kvs, k, rfl, rfl, hp, hl, q⟩ := h
  obtain rfl : ov = Value.ref p := ro
  exact d_setItem (Nat.lt_of_le_of_lt (Nat.add_le_add_left (by decide : 1 ≤ 64) _) hu) I (.k hp hl) ri rv fun s' I' => ⟨_, I', q⟩
theorem PSet.or {t t' : TSet} (h : PSet X t) (h' : PSet X t') : PSet X (fun o i v H Q => t o i v H Q ∨ t' o i v H Q) :=
  fun pins s σ H o i v ov iv u Q I ro ri rv g => g.elim (h pins s σ H o i v ov iv u Q I ro ri rv) (h' pins s σ H o i v ov iv u Q I ro ri rv)
theorem setD_sim {K : Fg} : SimSet K rSetDk vSetD := by
  intro r H S o i v wo wi w Q Q0 R po pi pv d k
  cases po <;> try exact d.elim
  rename_i a j h
  obtain ⟨kvs, key, h0, h1, hl, q⟩ := d
  obtain ⟨vs, h3, l⟩ := R.obj j _ _ h h0
  exact ⟨a, vs, key, rfl, rep_key pi h1, h3, by rw [kv_len l]; exact hl, k r _ _ (ext_wr h h3 trivial) (wr_dk R h h3 (kv_put pv l)) q⟩
def vSetA (o i v : W) (S : Sto) (Q : Sto → Prop) : Prop := vSet o i v S Q ∨ vSetD o i v S Q
theorem setA_sim {K : Fg} : SimSet K (fun o i v H Q => rSetL o i v H Q ∨ rSetDk o i v H Q) vSetA := fun r H S o i v wo wi w Q Q0 R po pi pv d k =>
  d.elim (fun d => .inl (set_sim r H S o i v wo wi w Q Q0 R po pi pv d k)) (fun d => .inr (setD_sim r H S o i v wo wi w Q Q0 R po pi pv d k))
theorem g_subA (hu : X.A.units + 64 < cLine) (ho : XE X o da) (hi : XE X b db) (ha : ∀ v, assign (.Subscript o b pos) X.env v = (do
      let ov ← holding [v] (eval o X.env)
      let iv ← holding [v, ov] (eval b X.env)
      standAt pos
      holding [v, ov, iv] (setItem ov iv v)
      release [v, ov, iv] []) := by intro _; rfl) : XG X (.Subscript o b pos) (gSb da db vSetA) := xg_sub (PSet.or set_list (set_dkv hu)) setA_sim ho hi ha
/-! ### {} -/
def dDict0 : DE := fun _ S Q => Q (.ref S.length) (S ++ [.dk []])
theorem xe_dict0 : XE X (.Dict [] [] pos) dDict0 := ⟨_, pe_dnewK, fun r H S s env Q Q0 R E d k => fun p hp => k _ _ _ _ _ (ext_mem hp) (new_dk R hp kv_nil) (rep_mem R) d⟩
/-! ### in -/
def vInD (neg : Bool) (x y : W) (S : Sto) (Q : WK) : Prop := match y with
  | .ref p => ∃ kvs k, S[p]? = some (.dk kvs) ∧ keyW x = some k ∧ Q (.bl (neg ^^ (valW kvs k).isSome)) S
  | .str z => ∃ c, x = .str ⟨#[c]⟩ ∧ Q (.bl (neg ^^ decide (c ∈ z.cps.toList))) S
  | _ => False
def rInDk (neg : Bool) : R2 := fun x y H Q => (∃ p kvs k, y = .ref p ∧ x = kV k ∧ H p = some (.dK kvs) ∧ Q (.bl (neg ^^ (valV kvs k).isSome)) H) ∨ ∃ (c : Nat) (z : Str), x = .str ⟨#[c]⟩ ∧ y = .str z ∧ Q (.bl (neg ^^ decide (c ∈ z.cps.toList))) H
theorem op_inDk (hu : X.A.units + 64 < cLine) : OpR X (compareOp .In) (rInDk false) := by
  intro pins s σ H x y v u Q I rx ry h
  rcases h with ⟨p, kvs, k, rfl, rfl, hp, q⟩ | h
  · obtain rfl : u = Value.ref p := ry
    rw [Bool.false_xor] at q
    exact d_in (Nat.lt_of_le_of_lt (Nat.add_le_add_left (by decide : 1 ≤ 64) _) hu) I (.k hp) rx fun s' I' => ⟨.bl _, H, I', rfl, q⟩
  · obtain ⟨c, z, rfl, rfl, q⟩ := h
    rw [Bool.false_xor] at q
    exact op_in_sign pins s σ H _ _ v u Q I rx ry ⟨c, z, rfl, rfl, q⟩
theorem op_notInDk (hu : X.A.units + 64 < cLine) : OpR X (compareOp .NotIn) (rInDk true) := by
  intro pins s σ H x y v u Q I rx ry h
  rcases h with ⟨p, kvs, k, rfl, rfl, hp, q⟩ | h
  · obtain rfl : u = Value.ref p := ry
    rw [Bool.true_xor] at q
    exact d_notIn (Nat.lt_of_le_of_lt (Nat.add_le_add_left (by decide : 1 ≤ 64) _) hu) I (.k hp) rx fun s' I' => ⟨.bl _, H, I', rfl, q⟩
  · obtain ⟨c, z, rfl, rfl, q⟩ := h
    rw [Bool.true_xor] at q
    exact op_notIn_sign pins s σ H _ _ v u Q I rx ry ⟨c, z, rfl, rfl, q⟩
theorem inDk_sim {K : Fg} {neg : Bool} : SimR K (rInDk neg) (vInD neg) := by
  intro r H S x y wx wy Q Q0 R px py d k
  cases py <;> try exact d.elim
  · obtain ⟨c, rfl, q⟩ := d
    cases px
    exact .inr ⟨c, _, rfl, rfl, k r H S _ _ .refl R (.bl _) q⟩
  · rename_i a j h
    obtain ⟨kvs, key, h0, h1, q⟩ := d
    obtain ⟨vs, h3, l⟩ := R.obj j _ _ h h0
    refine .inl ⟨a, vs, key, rfl, rep_key px h1, h3, ?_⟩
    have e : (valV vs key).isSome = (valW kvs key).isSome := by
      obtain ⟨f, g⟩ := kv_val (k := key) l
      cases hw : valW kvs key with
      | none => rw [g hw]; rfl
      | some w =>
        obtain ⟨v, hv, _⟩ := f w hw
        rw [hv]
        rfl
    rw [e]
    exact k r H S _ _ .refl R (.bl _) q
def vInA (neg : Bool) (x y : W) (S : Sto) (Q : WK) : Prop := vIn neg x y S Q ∨ vInD neg x y S Q
theorem x_inA (hu : X.A.units + 64 < cLine) (ha : XE X a da) (hb : XE X b db) (hm : behindInMarks .In b = false := by rfl) : XE X (.Compare a [.In] [b] pos) (dOp (vInA false) da db) := xe_cmp (OpR.or op_in_seq (op_inDk hu)) (SimR.or in_sim inDk_sim) ha hb hm
theorem x_notinA (hu : X.A.units + 64 < cLine) (ha : XE X a da) (hb : XE X b db) (hm : behindInMarks .NotIn b = false := by rfl) : XE X (.Compare a [.NotIn] [b] pos) (dOp (vInA true) da db) := xe_cmp (OpR.or op_notIn_seq (op_notInDk hu)) (SimR.or notin_sim inDk_sim) ha hb hm
theorem t_inA (hu : X.A.units + 64 < cLine) (ha : XE X a da) (hb : XE X b db) (hm : behindInMarks .In b = false := by rfl) : XT X (.Compare a [.In] [b] pos) (dB (dOp (vInA false) da db)) := xt_cmp (OpR.or op_in_seq (op_inDk hu)) (SimR.or in_sim inDk_sim) ha hb hm
theorem t_notinA (hu : X.A.units + 64 < cLine) (ha : XE X a da) (hb : XE X b db) (hm : behindInMarks .NotIn b = false := by rfl) : XT X (.Compare a [.NotIn] [b] pos) (dB (dOp (vInA true) da db)) := xt_cmp (OpR.or op_notIn_seq (op_notInDk hu)) (SimR.or notin_sim inDk_sim) ha hb hm
/-! ### list(d), len(d) -/
def vListD (xs : List W) (S : Sto) (Q : WK) : Prop := match xs with
  | [.ref p] => ∃ kvs, S[p]? = some (.dk kvs) ∧ Q (.ref S.length) (S ++ [.lst (kvs.map fun kv => wK kv.1)])
  | _ => False
theorem wKs_rep {K : Fg} {r : List Addr} {H : Hp} : ∀ {ws : List (Key × W)} {vs : List (Key × V)}, RelKV K r H vs ws → ∀ {r' : List Addr} {H' : Hp}, RepL K r' H' (vs.map fun kv => kV kv.1) (ws.map fun kv => wK kv.1)
  | [], vs, l, _, _ => by
    cases kv_empty l
    exact .nil
  | p :: ws, vs, l, _, _ => by
    obtain ⟨v, vs', rfl, a, b⟩ := kv_inv l
    exact .cons (rep_wK _) (wKs_rep b)
theorem listD_sim {K : Fg} : SimC K rListD vListD := by
  intro r H S xs ws Q Q0 R l d k
  cases l with
  | nil => exact d.elim
  | cons p l =>
    cases l with
    | cons p' l' => cases p <;> exact d.elim
    | nil =>
      cases p <;> try exact d.elim
      rename_i a j h
      obtain ⟨kvs, h0, q⟩ := d
      obtain ⟨vs, h3, l⟩ := R.obj j _ _ h h0
      exact ⟨a, vs, rfl, h3, fun p hp => k _ _ _ _ _ (ext_mem hp) (new_lst R hp (wKs_rep l)) (rep_mem R) q⟩
def vListA (xs : List W) (S : Sto) (Q : WK) : Prop := vList xs S Q ∨ vListD xs S Q
variable {p : Pos}
theorem c_listA (hc : X.calm = true) (hg : Gl X "list") (hm : X.mg "list" = none) (ha : XA X (e :: es) dA) (he : starEach (e :: es) X.env = (false, eval e X.env) :: starEach es X.env := by rfl) (hpl : (backTo pos (starEach es X.env)).any (·.1) = false := by rfl) : XE X (.Call (.Name "list" p) (e :: es) [] pos) (dCB vListA dA) :=
  xe_callTy (CallR.or call_list_of (call_list_dK hc)) (SimC.or list_sim listD_sim) hg hm (by decide +kernel) ha (by decide) (by decide) he hpl
/-! ### max -/
def vMaxA (xs : List W) (S : Sto) (Q : WK) : Prop := (∃ i j, xs = [.int i, .int j] ∧ Q (.int (max i j)) S) ∨ ∃ (p : Nat) (ns : List Int), xs = [.ref p] ∧ S[p]? = some (.lst (ns.map W.int)) ∧ 0 < ns.length ∧ ∀ m, m ∈ ns → (∀ y, y ∈ ns → y ≤ m) → Q (.int m) S
theorem max_sim {K : Fg} : SimC K (fun xs H Q => (∃ i j, xs = [.int i, .int j] ∧ Q (.int (if j > i then j else i)) H) ∨ rMax K xs H Q) vMaxA := by
  intro r H S xs ws Q Q0 R l d k
  rcases d with ⟨i, j, rfl, q⟩ | ⟨p, ns, rfl, hs, hn, q⟩
  · cases l with
    | cons a l =>
      cases l with
      | cons b l =>
        cases l
        cases a
        cases b
        refine .inl ⟨i, j, rfl, ?_⟩
        have e : max i j = if j > i then j else i := by
          split <;> omega
        rw [e] at q
        exact k r H S _ _ .refl R (.int _) q
  · cases l with
    | cons a l =>
      cases l
      cases a
      rename_i a h
      obtain ⟨vs, h3, l⟩ := R.obj p _ _ h hs
      have e := repL_ints l
      subst e
      exact .inr ⟨a, ns, rfl, .of h3, hn, fun m h1 h2 => k r H S _ _ .refl R (.int _) (q m h1 h2)⟩
theorem c_max (hc : X.calm = true) (hg : Gl X "max") (hm : X.mg "max" = none) (ha : XA X (e :: es) dA) (he : starEach (e :: es) X.env = (false, eval e X.env) :: starEach es X.env := by rfl) (hpl : (backTo pos (starEach es X.env)).any (·.1) = false := by rfl) : XE X (.Call (.Name "max" p) (e :: es) [] pos) (dCB vMaxA dA) :=
  xe_callB (CallR.or (call_max2 hc) (cr_max hc)) max_sim hg hm (by decide +kernel) ha (by decide) (by decide) he hpl
/-! ### extend, isalpha -/
variable {apos cpos : Pos}
def vExtend (x : W) (ws : List W) (S : Sto) (Q : WK) : Prop := match x, ws with
  | .ref i, [.ref j] => ∃ zs us, S[i]? = some (.lst zs) ∧ S[j]? = some (.lst us) ∧ zs.length + us.length ≤ sizeLine ∧ Q .non (S.set i (.lst (zs ++ us)))
  | _, _ => False
theorem extend_sim {K : Fg} : SimM K rExtend vExtend := by
  intro r H S x xs wx ws Q Q0 R px l d k
  cases px <;> try (cases l <;> exact d.elim)
  rename_i a i h
  cases l with
  | nil => exact d.elim
  | cons p l =>
    cases l with
    | cons p' l' => cases p <;> exact d.elim
    | nil =>
      cases p <;> try exact d.elim
      rename_i b j h'
      obtain ⟨zs, us, h0, h1, hz, q⟩ := d
      obtain ⟨xs, h3, l⟩ := R.obj i _ _ h h0
      obtain ⟨ys, h4, m⟩ := R.obj j _ _ h' h1
      exact ⟨a, b, xs, ys, rfl, rfl, h3, h4, by rw [l.length, m.length]; exact hz, k r _ _ _ _ (ext_wr h h3 trivial) (wr_lst R h h3 (l.app m)) .non q⟩
theorem m_extend {dr : DA} (ho : XE X o d0) (ha : XA X (e :: es) dr) (hbase : attributeBase o "extend" X.env (eval o X.env) = eval o X.env := by rfl)
    (hfew : ((backTo cpos (starEach (e :: es) X.env)).all (fun x => !x.1) && (backToKw cpos (keywordEach [] X.env)).all (fun x => x.1.isSome)
      && decide ((e :: es).length + ([] : List Keyword).length + (if ([] : List Keyword).isEmpty then 0 else 1) < 30)) = true := by rfl)
    (hline : (apos.endLine == cpos.line) = true := by rfl) (hs : starEach (e :: es) X.env = (false, eval e X.env) :: starEach es X.env := by rfl) (hplain : (backTo cpos (starEach es X.env)).any (·.1) = false := by rfl) :
    XE X (.Call (.Attribute o "extend" apos) (e :: es) [] cpos) (dBM "list" vExtend d0 dr) :=
  xe_bm PySem.F.plainAttrs_list PySem.F.slot_list_extend PySem.F.type_list_extend mt_extend extend_sim ho ha hbase hfew hline hs hplain
def vIsalpha (x : W) (ws : List W) (S : Sto) (Q : WK) : Prop := match x, ws with
  | .str a, [] => Q (.bl (Txt.isalpha a)) S
  | _, _ => False
theorem isalpha_sim {K : Fg} : SimM K (fun x xs H Q => ∃ a, x = .str a ∧ xs = [] ∧ True ∧ Q (.bl (Txt.isalpha a)) H) vIsalpha := by
  intro r H S x xs wx ws Q Q0 R px l d k
  cases px <;> try (cases l <;> exact d.elim)
  cases l with
  | cons p l => exact d.elim
  | nil => exact ⟨_, rfl, rfl, trivial, k r H S _ _ .refl R (.bl _) d⟩
end
end DL

/-! DLh: enumerate of a tuple or a list; zip; reversed; dict of pairs. -/
namespace DL
open PySem PySem.Spec PyProof.Rows L2
section
open PySem.AutoSeq1 (wpAny_loadPart')
theorem meets_enum1 {v : Value} {o : Obj} {H : Heap → Prop} (B : Begins v o H) :
    Meets (Builtin.«enumerate.__new__» ⟨[.type "enumerate", v], []⟩) (fun _ R s => H s.heap ∧
      R (.ok (.ret (.ref (s.heap.push o).objs.size))) { s with heap := (s.heap.push o).push { cls := .type "enumerate", data := .fields #[.none, .bool false, .ref s.heap.objs.size, rawInt 0, .none, .none] } }) :=
  .of_wp fun prog w A R s h => by
    obtain ⟨hp, g, d, tk, os⟩ := s; obtain ⟨h1, h⟩ := h
    have hsub := sub_enumerate
    have q1 : ∀ {A' : Around} {E : Value → Shared → Prop} {Q : Value → Shared → Prop}, Q (.ref hp.objs.size) ⟨hp.push o, g, d, tk, os⟩ → wpAny (model prog w) A' (pyIter v) Q E ⟨hp, g, d, tk, os⟩ :=
      fun q => B.iter prog w _ _ ⟨hp, g, d, tk, os⟩ _ h1 q
    wp_walk using q1
    refine wpAny_stack_any fun st => wpAny_pure ?_
    split
    · rename_i c _ _ _ _ _
      cases (c == Value.type "enumerate")
      · wp_walk using q1
        exact ⟨_, rfl, h⟩
      · wp_walk using q1
        exact ⟨_, rfl, h⟩
    · wp_walk using q1
      exact ⟨_, rfl, h⟩
theorem call_enum1 {prog : Program} {w : World} {A : Around} {E : Value → Shared → Prop} {s : Shared} {v : Value} {o : Obj} {H : Heap → Prop} {Q : Value → Shared → Prop} (B : Begins v o H) (h1 : H s.heap)
    (h : ∀ h', IsEnum h' (s.heap.objs.size + 1) s.heap.objs.size 0 .none → h'.get? s.heap.objs.size = some o → h'.objs.size = s.heap.objs.size + 2 →
      (∀ b o, s.heap.get? b = some o → h'.get? b = some o) → Q (.ref (s.heap.objs.size + 1)) { s with heap := h' }) :
    wpAny (model prog w) A (call (.type "enumerate") [v]) Q E s := by
  refine callType_new F.called_enumerate (by decide) (F.typeCall_enumerate_1 _) (F.newCall_enumerate_1 _) (fun obj => F.args_object_init_2 obj _) F.entry_enumerate_new (meets_enum1 B) ⟨h1, ?_⟩
  have hz : (s.heap.push o).objs.size = s.heap.objs.size + 1 := Heap.size_push ..
  show _ ∧ _
  rw [hz]
  have he : IsEnum ((s.heap.push o).push { cls := .type "enumerate", data := .fields #[.none, .bool false, .ref s.heap.objs.size, rawInt 0, .none, .none] }) (s.heap.objs.size + 1) s.heap.objs.size 0 .none := by
    have := Heap.get?_push_size (s.heap.push o) (o := { cls := .type "enumerate", data := .fields #[.none, .bool false, .ref s.heap.objs.size, rawInt 0, .none, .none] }) rfl
    rw [hz] at this; exact this
  exact ⟨⟨_, he, rfl⟩, h _ he (Heap.get?_push_of_some _ (Heap.get?_push_size _ B.free)) (by rw [Heap.size_push, hz]) fun b o x => Heap.get?_push_of_some _ (Heap.get?_push_of_some _ x)⟩
end
/-- the tuple at a, each item in a new pair -/
def IteT (K : PySem.W.Frag) (a : Addr) : It :=
  ⟨fun i H => ∃ (xs : List V) (x : V), SqT K H a xs ∧ xs[i]? = some x, fun i H v H' => ∃ T x, v = .ref T ∧ H T = none ∧ H' = upd H T (.tup [.int (i : Nat), x]) ∧ ∀ xs, SqT K H a xs → xs[i]? = some x, fun i H => ∃ xs : List V, SqT K H a xs ∧ xs.length ≤ i⟩
theorem turn_enumT {P : Program} {w : World} {K : PySem.W.Frag} {elts : List Expr} {kk : Nat} {tpos : Pos} (a e it : Addr) (hea : e ≠ a) (hia : a ≠ it) :
    Turn P w K (.Tuple elts kk tpos) (IteT K a) [e, it] e (fun i h => (∃ old, IsEnum h e it ((i : Nat) : Int) old) ∧ h.IsTupleIter it a i ∧ e ≠ it) where
  mem := by simp
  obj := fun i h st b hb => by
    obtain ⟨⟨old, he⟩, ⟨o, ho, hc, hd⟩, _⟩ := st
    have e' : b = e ∨ b = it := by simpa using hb
    rcases e' with z | z
    · rw [z]; exact ⟨_, he, fun v q => nomatch q⟩
    · rw [z]; exact ⟨o, ho, fun v q => by rw [hd] at q; cases q⟩
  keep := fun i h h' st k => let ⟨⟨old, he⟩, hi, hne⟩ := st; ⟨⟨old, k e (by simp) _ he⟩, hi.at fun o q => k it (by simp) o q, hne⟩
  item := by
    intro X hP hw hK hc i pins s σ H E I hf st hg
    subst hP hw hK
    obtain ⟨⟨old, he⟩, hit, hne⟩ := st
    obtain ⟨xs, x, hq, hx⟩ := hg
    obtain ⟨its, rv, p, hz⟩ := I.tuple hq
    obtain ⟨u, hu, ru⟩ := rv.get hx
    have hel : e < s.heap.objs.size := Heap.lt_size he
    have hil : it < s.heap.objs.size := by obtain ⟨_, q, _⟩ := hit; exact Heap.lt_size q
    have hlt : i < its.toArray.size := by
      rw [List.size_toArray]
      exact (List.getElem?_eq_some_iff.mp hu).1
    refine wpAny_pyNext_enum_itemC (Draws.tuple (prog := X.prog) (w := X.w) (A := X.A.in1) (show X.A.in1.handled = none from I.ok.hd hc) it a hia its.toArray) he ⟨hit, show s.heap.IsTuple a its.toArray from p⟩ hlt hne (by simp [hne, hea]) fun y h' tk hy ho st' hT hsz hk => ?_
    have ey : y = u := by
      have e1 : its.toArray[i]? = some u := by simpa using hu
      rw [e1] at hy
      exact (Option.some.inj hy).symm
    subst ey
    refine ⟨_, rfl, wpAny_letOwnedTupleGo_enum (s := { s with heap := h', toks := tk + 1 }) ho fun h'' he' sb => ?_⟩
    have hT2 : h''.get? s.heap.objs.size = some { cls := .type "tuple", data := .seq #[.int i tk, y] } := (sb.2 _ (Nat.ne_of_gt hel)).trans hT
    have new : ObjOk X.prog X.w (upd H s.heap.objs.size (.tup [.int (i : Nat), x])) h'' s.heap.objs.size (.tup [.int (i : Nat), x]) :=
      ⟨by show 2 ≤ sizeLine; decide, [.int i tk, y], .cons ⟨_, rfl⟩ (.cons ru .nil), ⟨_, hT2, rfl, _, rfl⟩⟩
    have I1 : Inv X pins σ (upd H s.heap.objs.size (.tup [.int (i : Nat), x])) { s with heap := h'', toks := tk + 1 } :=
      I.turnedNew (ch := [e, it]) (fun b ob hb q => (sb.2 b (fun z => hb (by simp [z]))).trans (hk b ob (fun z => hb (by simp [z])) (fun z => hb (by simp [z])) q)) hf (Nat.le_refl _) new
    refine ⟨.ref s.heap.objs.size, _, I1, rfl, ⟨_, x, rfl, I.hok.fresh (Nat.le_refl _), rfl, fun ys hy => by rw [I.tuple_inj hy hq]; exact hx⟩, ⟨⟨y, ?_⟩, st'.1.at fun o q => (sb.2 it (Ne.symm hne)).trans q, hne⟩, fun b hb => ?_⟩
    · have e1 : ((i + 1 : Nat) : Int) = (i : Int) + 1 := by omega
      rw [e1]; exact he'
    · have hb' : b < s.heap.objs.size := by
        have e' : b = e ∨ b = it := by simpa using hb
        rcases e' with z | z
        · rw [z]; exact hel
        · rw [z]; exact hil
      rw [upd_ne (Nat.ne_of_lt hb')]
      exact (hf b hb).1
  done := by
    intro X hP hw hK hc i pins s σ H E I hf st hg
    subst hP hw hK
    obtain ⟨⟨old, he⟩, hit, hne⟩ := st
    obtain ⟨xs, hq, hx⟩ := hg
    obtain ⟨its, rv, p, hz⟩ := I.tuple hq
    obtain ⟨f0, f1, f2, f3, f4, f5⟩ := hf it (by simp)
    have hl := rv.length
    have hge : its.toArray[i]? = none := by
      rw [Array.getElem?_eq_none]
      rw [List.size_toArray]
      omega
    have D : Draws X.prog X.w X.A.in1 it [it, a] i (fun j v => True) (fun j h => h.IsTupleIter it a j ∧ h.IsTuple a its.toArray ∧ j = i) :=
      { live := fun _ _ st => let ⟨o, ho, _⟩ := st.1; ⟨o, ho⟩
        frame := fun _ _ _ st hk => ⟨st.1.at fun o e => hk it (by simp) o e, st.2.1.at fun o e => hk a (by simp) o e, st.2.2⟩
        item := fun j s Q E hi st hQ => by
          have := st.2.2
          omega
        done := fun s Q E st hE => wpAny_nextOf_tuple_end (show X.A.in1.handled = none from I.ok.hd hc) st.1 st.2.1 hge hE }
    exact wpAny_pyNext_enum_endD D he ⟨hit, show s.heap.IsTuple a its.toArray from p, rfl⟩ fun h' eb => ⟨rfl, I.turned (t' := s.toks) (fun b o hb q => eb b o hb q) f0 f1 f3 f4 f5⟩
  self := fun A i s Q E st h => let ⟨⟨_, he⟩, _⟩ := st; wpAny_pyIter_enum he h
/-- enumerate of a list, a tuple -/
def tEnumI (K : Fg) (ta : TA) : TI := fun σ H R => ta σ H fun vs H1 => ∃ a xs, vs = [.ref a] ∧ ((SqL K H1 a xs ∧ R (Ite K a) H1) ∨ (SqT K H1 a xs ∧ R (IteT K a) H1))
theorem pi_enumA {X : Cx} {e : Expr} {ta : TA} {p pos tpos : Pos} {elts : List Expr} {kk : Nat} (hg : Gl X "enumerate") (hm : X.mg "enumerate" = none) (ha : PA X [e] ta) (hs : starEach [e] X.env = [(false, eval e X.env)] := by rfl) :
    PI X (.Tuple elts kk tpos) (.Call (.Name "enumerate" p) [e] [] pos) (tEnumI X.K ta) := by
  refine ⟨fun pins s σ H R I h => ?_⟩
  refine Call_ (ld_blt I hg hm boot_enumerate (PyProof.Rows.callWith_type1 (thn (ha.run pos pins s σ H _ I h) fun us s1 ⟨vs, H1, I1, r1, q1⟩ => ?_) hs rfl))
  obtain ⟨a, xs, ex, q⟩ := q1
  subst ex
  cases r1 with
  | cons r rr =>
    cases rr
    cases r
    have fresh2 : ∀ b ∈ [s1.heap.objs.size + 1, s1.heap.objs.size], FpOk X pins H1 b := fun b hb => by
      have e' : b = s1.heap.objs.size + 1 ∨ b = s1.heap.objs.size := by simpa using hb
      have hle : s1.heap.objs.size ≤ b := by
        rcases e' with z | z
        · rw [z]; exact Nat.le_add_right _ _
        · rw [z]; exact Nat.le_refl _
      exact I1.fpOk hle (I1.hok.fresh hle)
    rcases q with ⟨hq, q⟩ | ⟨hq, q⟩
    · obtain ⟨its, rv, p', hz⟩ := I1.list hq
      refine call_enumerate_list p'.isList fun h' he hit hsz hk => wpAny_pyIter_enum he ?_
      have I2 : Inv X pins σ H1 { s1 with heap := h' } := I1.kept (t' := s1.toks) hk
      exact ⟨s1.heap.objs.size + 1, [s1.heap.objs.size + 1, s1.heap.objs.size], _, _, H1, rfl, I2, turn_enum a (s1.heap.objs.size + 1) s1.heap.objs.size, ⟨⟨.none, he⟩, hit, Nat.succ_ne_self _⟩, fresh2, q⟩
    · obtain ⟨its, rv, p', hz⟩ := I1.tuple hq
      obtain ⟨o1, ho1, _⟩ := id p'
      have hlt : a < s1.heap.objs.size := Heap.lt_size ho1
      refine call_enum1 (begins_tuple a its.toArray) (show s1.heap.IsTuple a its.toArray from p') fun h' he ho hsz hk => wpAny_pyIter_enum he ?_
      have I2 : Inv X pins σ H1 { s1 with heap := h' } := I1.kept (t' := s1.toks) hk
      exact ⟨s1.heap.objs.size + 1, [s1.heap.objs.size + 1, s1.heap.objs.size], _, _, H1, rfl, I2, turn_enumT a (s1.heap.objs.size + 1) s1.heap.objs.size (Nat.ne_of_gt (Nat.lt_succ_of_lt hlt)) (Nat.ne_of_lt hlt), ⟨⟨.none, he⟩, ⟨_, ho, rfl, rfl⟩, Nat.succ_ne_self _⟩, fresh2, q⟩
def enumW (ws : List W) : List W := ws.mapIdx fun i w => .tup [.int (i : Int), w]
theorem enumW_get {ws : List W} {i : Nat} {x : W} (h : (enumW ws)[i]? = some x) : ∃ w, ws[i]? = some w ∧ x = .tup [.int (i : Int), w] := by
  unfold enumW at h
  rw [List.getElem?_mapIdx] at h
  obtain ⟨w, h1, h2⟩ := Option.map_eq_some_iff.mp h
  exact ⟨w, h1, h2.symm⟩
theorem enumW_len {ws : List W} : (enumW ws).length = ws.length := by
  unfold enumW
  exact List.length_mapIdx
def iEnumerate (da : DA) : DI := fun env S Q => da env S fun us S1 => match us with
  | [w] => vSeqI w S1 fun ws still => Q (enumW ws) still
  | _ => False
theorem pair_ok {K : Fg} {r : List Addr} {H : Hp} {S : Sto} {T : Addr} {v1 v2 : V} {w1 w2 : W} (R : RelS K r H S) (hT : H T = none) (p1 : Rep K r H v1 w1) (p2 : Rep K r H v2 w2) :
    Ext K r H r (upd H T (.tup [v1, v2])) ∧ RelS K r (upd H T (.tup [v1, v2])) S ∧ Rep K r (upd H T (.tup [v1, v2])) (.ref T) (.tup [w1, w2]) :=
  ⟨ext_new hT, rel_new R hT, rep_tup hT (.cons p1 (.cons p2 .nil))⟩
theorem enumT_ok {K : Fg} {r : List Addr} {H : Hp} {a : Addr} {xs : List V} {ws : List W} (q : SqT K H a xs) (l : RepL K r H xs ws) : ItOk K (IteT K a) (enumW ws) (fun _ => True) r H := by
  refine ⟨fun r' H' S' i x e R _ hx => ?_, fun r' H' S' i e R _ hl => ⟨_, e.tup _ _ q, by rw [l.length]; rwa [enumW_len] at hl⟩⟩
  obtain ⟨w, hw, rfl⟩ := enumW_get hx
  obtain ⟨v, hv, pv⟩ := l.get hw
  refine ⟨⟨_, _, e.tup _ _ q, hv⟩, fun v' H3 hy => ?_⟩
  obtain ⟨T, y, rfl, hT, rfl, f⟩ := hy
  have := Option.some.inj ((f _ (e.tup _ _ q)).symm.trans hv)
  subst this
  exact pair_ok R hT (.int _) (pv.mono' e)
theorem enumL_ok {K : Fg} {r : List Addr} {H : Hp} {a : Addr} {ws : List W} {still : Sto → Prop} (f : ∀ r' H' S', Kp K r H r' H' → RelS K r' H' S' → still S' → ∃ xs, SqL K H' a xs ∧ RepL K r' H' xs ws) : ItOk K (Ite K a) (enumW ws) still r H := by
  refine ⟨fun r' H' S' i x e R st hx => ?_, fun r' H' S' i e R st hl => ?_⟩
  · obtain ⟨xs, q, l⟩ := f r' H' S' e R st
    obtain ⟨w, hw, rfl⟩ := enumW_get hx
    obtain ⟨v, hv, pv⟩ := l.get hw
    refine ⟨⟨_, _, q, hv⟩, fun v' H3 hy => ?_⟩
    obtain ⟨T, y, rfl, hT, rfl, g⟩ := hy
    have := Option.some.inj ((g _ q).symm.trans hv)
    subst this
    exact pair_ok R hT (.int _) pv
  · obtain ⟨xs, q, l⟩ := f r' H' S' e R st
    exact ⟨xs, q, by rw [l.length]; rwa [enumW_len] at hl⟩
theorem seqI_cases {K : Fg} {r : List Addr} {H : Hp} {S : Sto} {v : V} {w : W} {Q : List W → (Sto → Prop) → Sto → Prop} (R : RelS K r H S) (p : Rep K r H v w) (h : vSeqI w S Q) :
    ∃ a, v = .ref a ∧ ∃ ws still, Q ws still S ∧ ((∃ xs, SqT K H a xs ∧ RepL K r H xs ws ∧ still = fun _ => True) ∨ ((∃ xs, SqL K H a xs) ∧ ∀ r' H' S', Kp K r H r' H' → RelS K r' H' S' → still S' → ∃ xs, SqL K H' a xs ∧ RepL K r' H' xs ws)) := by
  cases p with
  | @tup a xs ws q l => exact ⟨a, rfl, ws, _, h, .inl ⟨xs, q, l, rfl⟩⟩
  | @lit a xs ws q l => exact ⟨a, rfl, ws, _, h, .inr ⟨⟨_, q.1⟩, fun r' H' S' e _ _ => ⟨xs, (q.mono e).1, l.mono' e⟩⟩⟩
  | @ref a i q =>
    obtain ⟨ws, hs, h⟩ := h
    obtain ⟨xs, h1, l⟩ := R.obj i a _ q hs
    refine ⟨a, rfl, ws, _, h, .inr ⟨⟨_, .of h1⟩, fun r' H' S' e R' st => ?_⟩⟩
    obtain ⟨ys, h2, l2⟩ := R'.obj i a _ (e.pre _ _ q) st
    exact ⟨ys, .of h2, l2⟩
  | _ => exact h.elim
theorem xi_enumerate {X : Cx} {e : Expr} {da : DA} {p pos tpos : Pos} {elts : List Expr} {kk : Nat} (hg : Gl X "enumerate") (hm : X.mg "enumerate" = none) (ha : XA X [e] da) (hs : starEach [e] X.env = [(false, eval e X.env)] := by rfl) :
    XI X (.Tuple elts kk tpos) (.Call (.Name "enumerate" p) [e] [] pos) (iEnumerate da) := by
  obtain ⟨t, p, s⟩ := ha.ex
  refine ⟨_, pi_enumA hg hm p hs, fun r H S st env Q Q0 R E g k => ?_⟩
  refine s r H S st env _ _ R E g fun r1 H1 S1 vs us e1 R1 q1 d1 => ?_
  cases q1 with
  | nil => exact d1.elim
  | cons a b =>
    cases b with
    | cons _ _ => exact d1.elim
    | nil =>
      obtain ⟨a, rfl, ws, still, q, h⟩ := seqI_cases R1 a d1
      rcases h with ⟨xs, hq, l, rfl⟩ | ⟨⟨xs, hq⟩, f⟩
      · exact ⟨_, xs, rfl, .inr ⟨hq, k r1 H1 S1 _ _ _ e1 R1 (enumT_ok hq l) q⟩⟩
      · exact ⟨_, xs, rfl, .inl ⟨hq, k r1 H1 S1 _ _ _ e1 R1 (enumL_ok f) q⟩⟩
end DL

/-! DLi: dict of pairs, dict copies; text methods; chains of equations for these. -/
namespace DL
open PySem PySem.Spec PyProof.Rows L2
def mergeW (kvs more : List (Key × W)) : List (Key × W) := more.foldl (fun acc kv => putW acc kv.1 kv.2) kvs
def pairW (kv : Key × W) : W := .tup [wK kv.1, kv.2]
section
variable {K : Fg} {r : List Addr} {H : Hp}
theorem rep_of_wK {v : V} {k : Key} (p : Rep K r H v (wK k)) : v = kV k := rep_key p (keyW_wK k)
theorem pairs_rep : ∀ {kws : List (Key × W)} {vs : List V}, RepL K r H vs (kws.map pairW) → ∃ (ps : List Addr) (kvs : List (Key × V)), vs = ps.map V.ref ∧ Paired (fun p kv => SqT K H p [kV kv.1, kv.2]) ps kvs ∧ RelKV K r H kvs kws
  | [], vs, l => by
    cases l
    exact ⟨[], [], rfl, .nil, kv_nil⟩
  | (k, w) :: kws, vs, l => by
    cases l with
    | cons a b =>
      obtain ⟨ps, kvs, e, h1, h2⟩ := pairs_rep b
      have a' : Rep K r H _ (.tup [wK k, w]) := a
      cases a' with
      | tup q m =>
        cases m with
        | cons m1 m =>
          cases m with
          | cons m2 m =>
            cases m
            have ek := rep_of_wK m1
            subst ek
            rename_i A v2
            exact ⟨A :: ps, (k, v2) :: kvs, by rw [e]; rfl, .cons q h1, kv_cons m2 h2⟩
theorem merge_sim : ∀ {more : List (Key × V)} {moreW : List (Key × W)} {acc : List (Key × V)} {accW : List (Key × W)}, RelKV K r H more moreW → RelKV K r H acc accW → RelKV K r H (mergeK acc more) (mergeW accW moreW)
  | more, [], acc, accW, l, m => by
    cases kv_empty l
    exact m
  | more, p :: moreW, acc, accW, l, m => by
    obtain ⟨v, vs', rfl, a, b⟩ := kv_inv l
    show RelKV K r H (mergeK (putK acc p.1 v) vs') (mergeW (putW accW p.1 p.2) moreW)
    exact merge_sim b (kv_put a m)
end
def vDict (xs : List W) (S : Sto) (Q : WK) : Prop := match xs with
  | [.ref p] => (∃ kws, S[p]? = some (.lst (kws.map pairW)) ∧ Q (.ref S.length) (S ++ [.dk (mergeW [] kws)])) ∨ ∃ kvs, S[p]? = some (.dk kvs) ∧ Q (.ref S.length) (S ++ [.dk kvs])
  | _ => False
theorem dict_sim {K : Fg} : SimC K (fun xs H Q => (∃ (a : Addr) (ps : List Addr) (kvs : List (Key × V)), xs = [.ref a] ∧ SqL K H a (ps.map V.ref) ∧ Paired (fun p kv => SqT K H p [kV kv.1, kv.2]) ps kvs ∧ ∀ p, H p = none → Q (.ref p) (upd H p (.dK (mergeK [] kvs)))) ∨
    ∃ (a : Addr) (kvs : List (Key × V)), xs = [.ref a] ∧ Rd H a (.dK kvs) ∧ ∀ p, H p = none → Q (.ref p) (upd H p (.dK kvs))) vDict := by
  intro r H S xs ws Q Q0 R l d k
  cases l with
  | nil => exact d.elim
  | cons p l =>
    cases l with
    | cons p' l' => cases p <;> exact d.elim
    | nil =>
      cases p <;> try exact d.elim
      rename_i a j h
      rcases d with ⟨kws, h0, q⟩ | ⟨kvs, h0, q⟩
      · obtain ⟨xs, h3, l⟩ := R.obj j _ _ h h0
        obtain ⟨ps, kvs, rfl, h1, h2⟩ := pairs_rep l
        exact .inl ⟨a, ps, kvs, rfl, .of h3, h1, fun p hp => k _ _ _ _ _ (ext_mem hp) (new_dk R hp (merge_sim h2 kv_nil)) (rep_mem R) q⟩
      · obtain ⟨vs, h3, l⟩ := R.obj j _ _ h h0
        exact .inr ⟨a, vs, rfl, .inl h3, fun p hp => k _ _ _ _ _ (ext_mem hp) (new_dk R hp l) (rep_mem R) q⟩
section
variable {X : Cx} {a b e o : Expr} {es : List Expr} {da db d0 : DE} {dA : DA} {pos p apos cpos : Pos}
theorem c_dict (hc : X.calm = true) (hg : Gl X "dict") (hm : X.mg "dict" = none) (ha : XA X (e :: es) dA) (he : starEach (e :: es) X.env = (false, eval e X.env) :: starEach es X.env := by rfl) (hpl : (backTo pos (starEach es X.env)).any (·.1) = false := by rfl) : XE X (.Call (.Name "dict" p) (e :: es) [] pos) (dCB vDict dA) :=
  xe_callTy (CallR.or (call_dictP hc) L2.call_dictD) dict_sim hg hm (by decide +kernel) ha (by decide) (by decide) he hpl
theorem m_isalpha (ho : XE X o d0) (hbase : attributeBase o "isalpha" X.env (eval o X.env) = eval o X.env := by rfl) (hline : (apos.endLine == cpos.line) = true := by rfl) :
    XE X (.Call (.Attribute o "isalpha" apos) [] [] cpos) (dBM0 "str" vIsalpha d0) :=
  xe_bm0 PySem.F.plainAttrs_str PySem.F.slot_str_isalpha PySem.F.type_str_isalpha mt_isalpha isalpha_sim ho hbase hline
end
/-! ### equations -/
section
variable {S : Sto} {Q : WK} {i : Nat}
theorem or_false_l {p q : Prop} (h : ¬ p) : (p ∨ q) = q := propext ⟨fun o => o.resolve_left h, .inr⟩
theorem or_false_r {p q : Prop} (h : ¬ q) : (p ∨ q) = p := propext ⟨fun o => o.resolve_right h, .inl⟩
theorem e_ixAT {ws : List W} {k : Int} {w : W} (h : atI ws k = some w) : vIxA (.tup ws) (.int k) S Q = Q w S := by
  unfold vIxA
  rw [or_false_r (show ¬ vIxD (.tup ws) (.int k) S Q from fun x => x), e_ixT h]
theorem e_ixALit {ws : List W} {k : Int} {w : W} (h : atI ws k = some w) : vIxA (.lit ws) (.int k) S Q = Q w S := by
  unfold vIxA
  rw [or_false_r (show ¬ vIxD (.lit ws) (.int k) S Q from fun x => x), e_ixLit h]
theorem e_ixAL {ws : List W} {k : Int} {w : W} (h0 : S[i]? = some (.lst ws)) (h : atI ws k = some w) : vIxA (.ref i) (.int k) S Q = Q w S := by
  unfold vIxA
  rw [or_false_r (fun ⟨kvs, _, _, x, _⟩ => by rw [h0] at x; cases x), e_ixL h0 h]
theorem e_ixAS {z : Str} {k : Int} {c : Nat} (h : atI z.cps.toList k = some c) : vIxA (.str z) (.int k) S Q = (z.length ≤ sizeLine ∧ Q (.str ⟨#[c]⟩) S) := by
  unfold vIxA
  rw [or_false_r (show ¬ vIxD (.str z) (.int k) S Q from fun x => x), e_ixS h]
theorem e_ixAD {kvs : List (Key × W)} {y w : W} {k : Key} (h0 : S[i]? = some (.dk kvs)) (hk : keyW y = some k) (h : valW kvs k = some w) : vIxA (.ref i) y S Q = Q w S := by
  unfold vIxA
  have n : ¬ vIx (.ref i) y S Q := fun x => by
    cases y <;> first | exact x | (obtain ⟨ws, w, e, _⟩ := x; rw [h0] at e; cases e)
  rw [or_false_l n]
  show (∃ kvs k w, S[i]? = some (.dk kvs) ∧ keyW y = some k ∧ valW kvs k = some w ∧ Q w S) = _
  exact propext ⟨fun ⟨kvs', k', w', a, b, c, q⟩ => by rw [h0] at a; cases a; rw [hk] at b; cases b; rw [h] at c; cases c; exact q, fun q => ⟨kvs, k, w, h0, hk, h, q⟩⟩
theorem e_setAL {ws : List W} {k : Int} {j : Nat} {v : W} {QS : Sto → Prop} (h0 : S[i]? = some (.lst ws)) (h : ixN ws.length k = some j) : vSetA (.ref i) (.int k) v S QS = QS (S.set i (.lst (ws.set j v))) := by
  unfold vSetA
  rw [or_false_r (fun ⟨kvs, _, x, _⟩ => by rw [h0] at x; cases x), e_set h0 h]
theorem e_setAD {kvs : List (Key × W)} {y v : W} {k : Key} {QS : Sto → Prop} (h0 : S[i]? = some (.dk kvs)) (hk : keyW y = some k) : vSetA (.ref i) y v S QS = (kvs.length < sizeLine ∧ QS (S.set i (.dk (putW kvs k v)))) := by
  unfold vSetA
  have n : ¬ vSet (.ref i) y v S QS := fun x => by
    cases y <;> first | exact x | (obtain ⟨ws, w, e, _⟩ := x; rw [h0] at e; cases e)
  rw [or_false_l n]
  show (∃ kvs k, S[i]? = some (.dk kvs) ∧ keyW y = some k ∧ kvs.length < sizeLine ∧ QS (S.set i (.dk (putW kvs k v)))) = _
  exact propext ⟨fun ⟨kvs', k', a, b, c, q⟩ => by rw [h0] at a; cases a; rw [hk] at b; cases b; exact ⟨c, q⟩, fun ⟨c, q⟩ => ⟨kvs, k, h0, hk, c, q⟩⟩
theorem e_dict0 {env : Slots} : dDict0 env S Q = Q (.ref S.length) (S ++ [.dk []]) := rfl
theorem e_inAL {n : Bool} {x : W} {ws : List W} (h : S[i]? = some (.lst ws)) : vInA n x (.ref i) S Q = (flW x = true ∧ ws.all flW = true ∧ Q (.bl (n ^^ inW x ws)) S) := by
  unfold vInA
  rw [or_false_r (fun ⟨kvs, _, e, _⟩ => by rw [h] at e; cases e), e_in h]
theorem e_inAT {n : Bool} {x : W} {ws : List W} : vInA n x (.tup ws) S Q = (flW x = true ∧ ws.all flW = true ∧ Q (.bl (n ^^ inW x ws)) S) := by
  unfold vInA
  rw [or_false_r (show ¬ vInD n x (.tup ws) S Q from fun x => x), e_inT]
theorem e_inAD {n : Bool} {x : W} {kvs : List (Key × W)} {k : Key} (h : S[i]? = some (.dk kvs)) (hk : keyW x = some k) : vInA n x (.ref i) S Q = Q (.bl (n ^^ (valW kvs k).isSome)) S := by
  unfold vInA
  have no : ¬ vIn n x (.ref i) S Q := fun ⟨ws, e, _⟩ => by
    have e' : (match S[i]? with | some (.lst ws) => some ws | _ => none) = some ws := e
    rw [h] at e'
    cases e'
  rw [or_false_l no]
  show (∃ kvs k, S[i]? = some (.dk kvs) ∧ keyW x = some k ∧ Q (.bl (n ^^ (valW kvs k).isSome)) S) = _
  exact propext ⟨fun ⟨kvs', k', a, b, q⟩ => by rw [h] at a; cases a; rw [hk] at b; cases b; exact q, fun q => ⟨kvs, k, h, hk, q⟩⟩
theorem e_inAS {n : Bool} {c : Nat} {z : Str} : vInA n (.str ⟨#[c]⟩) (.str z) S Q = Q (.bl (n ^^ decide (c ∈ z.cps.toList))) S := by
  unfold vInA
  rw [or_false_l (fun ⟨ws, e, _⟩ => by cases e)]
  exact propext ⟨fun ⟨c', e, q⟩ => by cases e; exact q, fun q => ⟨c, rfl, q⟩⟩
theorem e_listAT {ws : List W} : vListA [.tup ws] S Q = Q (.ref S.length) (S ++ [.lst ws]) := by
  unfold vListA
  rw [or_false_r (show ¬ vListD [.tup ws] S Q from fun x => x), e_listT]
theorem e_listALit {ws : List W} : vListA [.lit ws] S Q = Q (.ref S.length) (S ++ [.lst ws]) := by
  unfold vListA
  rw [or_false_r (show ¬ vListD [.lit ws] S Q from fun x => x), e_listLit]
theorem e_listAL {ws : List W} (h : S[i]? = some (.lst ws)) : vListA [.ref i] S Q = Q (.ref S.length) (S ++ [.lst ws]) := by
  unfold vListA
  rw [or_false_r (fun ⟨kvs, e, _⟩ => by rw [h] at e; cases e), e_listL h]
theorem e_listAD {kvs : List (Key × W)} (h : S[i]? = some (.dk kvs)) : vListA [.ref i] S Q = Q (.ref S.length) (S ++ [.lst (kvs.map fun kv => wK kv.1)]) := by
  unfold vListA
  have no : ¬ vList [.ref i] S Q := fun ⟨ws, e, _⟩ => by
    have e' : (match S[i]? with | some (.lst ws) => some ws | _ => none) = some ws := e
    rw [h] at e'
    cases e'
  rw [or_false_l no]
  show (∃ kvs, S[i]? = some (.dk kvs) ∧ Q (.ref S.length) (S ++ [.lst (kvs.map fun kv => wK kv.1)])) = _
  exact propext ⟨fun ⟨kvs', e, q⟩ => by rw [h] at e; cases e; exact q, fun q => ⟨kvs, h, q⟩⟩
theorem e_max2 {a b : Int} : vMaxA [.int a, .int b] S Q = Q (.int (max a b)) S := by
  unfold vMaxA
  refine propext ⟨fun h => ?_, fun q => .inl ⟨a, b, rfl, q⟩⟩
  rcases h with ⟨i, j, e, q⟩ | ⟨p, ns, e, _⟩
  · cases e
    exact q
  · cases e
theorem e_extend {j : Nat} {ws us : List W} (h : S[i]? = some (.lst ws)) (h2 : S[j]? = some (.lst us)) : vExtend (.ref i) [.ref j] S Q = (ws.length + us.length ≤ sizeLine ∧ Q .non (S.set i (.lst (ws ++ us)))) := by
  show (∃ zs us, S[i]? = some (.lst zs) ∧ S[j]? = some (.lst us) ∧ zs.length + us.length ≤ sizeLine ∧ Q .non (S.set i (.lst (zs ++ us)))) = _
  exact propext ⟨fun ⟨a, b, e1, e2, c, q⟩ => by rw [h] at e1; cases e1; rw [h2] at e2; cases e2; exact ⟨c, q⟩, fun ⟨c, q⟩ => ⟨ws, us, h, h2, c, q⟩⟩
theorem e_isalpha {a : Str} : vIsalpha (.str a) [] S Q = Q (.bl (Txt.isalpha a)) S := rfl
theorem e_dictP {kws : List (Key × W)} (h : S[i]? = some (.lst (kws.map pairW))) : vDict [.ref i] S Q = Q (.ref S.length) (S ++ [.dk (mergeW [] kws)]) := by
  have inj : ∀ {a b : List (Key × W)}, a.map pairW = b.map pairW → a = b := by
    intro a
    induction a with
    | nil => intro b e; cases b with | nil => rfl | cons _ _ => cases e
    | cons p a ih =>
      intro b e
      cases b with
      | nil => cases e
      | cons q b =>
        rw [List.map_cons, List.map_cons] at e
        have e1 := (List.cons.inj e).1
        have e2 := ih (List.cons.inj e).2
        obtain ⟨k, w⟩ := p
        obtain ⟨k2, w2⟩ := q
        have e3 : W.tup [wK k, w] = W.tup [wK k2, w2] := e1
        have e4 := (List.cons.inj (W.tup.inj e3)).1
        have e5 := (List.cons.inj (List.cons.inj (W.tup.inj e3)).2).1
        have e6 : k = k2 := by
          have z := congrArg keyW e4
          rw [keyW_wK, keyW_wK] at z
          exact Option.some.inj z
        rw [e2, e5, e6]
  show ((∃ kws, S[i]? = some (.lst (kws.map pairW)) ∧ Q (.ref S.length) (S ++ [.dk (mergeW [] kws)])) ∨ ∃ kvs, S[i]? = some (.dk kvs) ∧ Q (.ref S.length) (S ++ [.dk kvs])) = _
  refine propext ⟨fun o => ?_, fun q => .inl ⟨kws, h, q⟩⟩
  rcases o with ⟨kws', e, q⟩ | ⟨kvs, e, _⟩
  · rw [h] at e
    have e2 := inj (O.lst.inj (Option.some.inj e))
    rw [e2]
    exact q
  · rw [h] at e
    cases e
theorem e_dictD {kvs : List (Key × W)} (h : S[i]? = some (.dk kvs)) : vDict [.ref i] S Q = Q (.ref S.length) (S ++ [.dk kvs]) := by
  show ((∃ kws, S[i]? = some (.lst (kws.map pairW)) ∧ Q (.ref S.length) (S ++ [.dk (mergeW [] kws)])) ∨ ∃ kvs, S[i]? = some (.dk kvs) ∧ Q (.ref S.length) (S ++ [.dk kvs])) = _
  refine propext ⟨fun o => ?_, fun q => .inr ⟨kvs, h, q⟩⟩
  rcases o with ⟨kws', e, q⟩ | ⟨kvs', e, q⟩
  · rw [h] at e
    cases e
  · rw [h] at e
    cases e
    exact q
variable {da : DA} {env : Slots} {QI : List W → (Sto → Prop) → Sto → Prop}
theorem e_enum : iEnumerate da env S QI = da env S fun us S1 => match us with
  | [w] => vSeqI w S1 fun ws still => QI (enumW ws) still
  | _ => False := rfl
end
/-! ### comprehensions whose target is a tuple -/
section
variable {X : Cx} {pos : Pos}
theorem xe_compT {elt iter : Expr} {es : List Expr} {kt n : Nat} {tpos : Pos} {ifs : List Expr} {scope : Scope} {di : DI} {ts : TGs} {gs : DGs} {dt : DT} {de : DE} (own : List (Str × Nat)) (hc : X.calm = true) (hN : X.N.Nodup) (hi : XI X (.Tuple es kt tpos) iter di) (ok : BlkOk X.N X.env.scope scope own)
    (hg : ∀ (s : Shared) (H : Hp) (C : Addr) (cl : List (Str × Addr)) (fp : List Addr), XCGs (X.blk s H scope (compEnvC scope cl C X.env) fp) (own.map (·.2)) es ts gs)
    (ht : ∀ (s : Shared) (H : Hp) (C : Addr) (cl : List (Str × Addr)) (fp : List Addr), XTs (X.blk s H scope (compEnvC scope cl C X.env) fp) ifs dt)
    (he : ∀ (s : Shared) (H : Hp) (C : Addr) (cl : List (Str × Addr)) (fp : List Addr), XE (X.blk s H scope (compEnvC scope cl C X.env) fp) elt de)
    (hn : ∀ env, (assignEach es env).length = n := by intro _; rfl) (hst : ∀ env, (assignEach es env).findIdx? (·.1) = none := by intro _; rfl)
    (hs : ∀ x, foldedSetIterable iter X.env x = pure x := by intro _; rfl) : XE X (.ListComp elt [⟨.Tuple es kt tpos, iter, ifs, 0⟩] scope pos) (dComp di (gTp n gs) dt de (own.map (·.2))) :=
  xe_comp (t := gTup X.K n ts) own hc hN hi ok (fun s H C cl fp => xcg_tup (X := X.blk s H scope (compEnvC scope cl C X.env) fp) hc (hg s H C cl fp) (hn _) (hst _)) ht he hs
theorem xs_setCompT {y : Str} {py spos : Pos} {elt iter : Expr} {es : List Expr} {kt n : Nat} {tpos : Pos} {ifs : List Expr} {scope : Scope} {di : DI} {ts : TGs} {gs : DGs} {dt : DT} {de : DE} (i : Nat) (own : List (Str × Nat)) (hc : X.calm = true) (hN : X.N.Nodup) (hi : XI X (.Tuple es kt tpos) iter di) (ok : BlkOk X.N X.env.scope scope own)
    (hg : ∀ (s : Shared) (H : Hp) (C : Addr) (cl : List (Str × Addr)) (fp : List Addr), XCGs (X.blk s H scope (compEnvC scope cl C X.env) fp) (own.map (·.2)) es ts gs)
    (ht : ∀ (s : Shared) (H : Hp) (C : Addr) (cl : List (Str × Addr)) (fp : List Addr), XTs (X.blk s H scope (compEnvC scope cl C X.env) fp) ifs dt)
    (he : ∀ (s : Shared) (H : Hp) (C : Addr) (cl : List (Str × Addr)) (fp : List Addr), XE (X.blk s H scope (compEnvC scope cl C X.env) fp) elt de)
    (hsw : swapsWith (.ListComp elt [⟨.Tuple es kt tpos, iter, ifs, 0⟩] scope pos) (some (.Name y py)) spos.line X.env = pure true)
    (hn : ∀ env, (assignEach es env).length = n := by intro _; rfl) (hst : ∀ env, (assignEach es env).findIdx? (·.1) = none := by intro _; rfl)
    (hy : X.N[i]? = some y := by rfl) (hyl : X.env.scope.names.lookup y = some .local := by rfl) (hs : ∀ x, foldedSetIterable iter X.env x = pure x := by intro _; rfl) :
    XS X (.Assign [.Name y py] (.ListComp elt [⟨.Tuple es kt tpos, iter, ifs, 0⟩] scope pos) spos) (dAsg (dComp di (gTp n gs) dt de (own.map (·.2))) (gNm i)) :=
  xs_setComp (t := gTup X.K n ts) i own hc hN hi ok (fun s H C cl fp => xcg_tup (X := X.blk s H scope (compEnvC scope cl C X.env) fp) hc (hg s H C cl fp) (hn _) (hst _)) ht he hsw hy hyl hs
end
/-! ### len, any size -/
def vLenD (xs : List W) (S : Sto) (Q : WK) : Prop := match xs with
  | [.ref p] => ∃ kvs, S[p]? = some (.dk kvs) ∧ Q (.int kvs.length) S
  | _ => False
theorem lenD_sim {K : Fg} : SimC K (fun xs H Q => ∃ a kvs, xs = [V.ref a] ∧ H a = some (.dK kvs) ∧ Q (.int kvs.length) H) vLenD := by
  intro r H S xs ws Q Q0 R l d k
  cases l with
  | nil => exact d.elim
  | cons p l =>
    cases l with
    | cons p' l' => cases p <;> exact d.elim
    | nil =>
      cases p <;> try exact d.elim
      rename_i a j h
      obtain ⟨kvs, h0, q⟩ := d
      obtain ⟨vs, h3, l⟩ := R.obj j _ _ h h0
      exact ⟨a, vs, rfl, h3, by rw [kv_len l]; exact k r H S _ _ .refl R (.int _) q⟩
def vLenA (xs : List W) (S : Sto) (Q : WK) : Prop := vLen xs S Q ∨ vLenD xs S Q
section
variable {X : Cx} {e : Expr} {es : List Expr} {dA : DA} {pos p : Pos}
theorem c_lenA (hg : Gl X "len") (hm : X.mg "len" = none) (ha : XA X (e :: es) dA) (he : starEach (e :: es) X.env = (false, eval e X.env) :: starEach es X.env := by rfl) (hpl : (backTo pos (starEach es X.env)).any (·.1) = false := by rfl) : XE X (.Call (.Name "len" p) (e :: es) [] pos) (dCB vLenA dA) :=
  xe_callB (CallR.or call_len call_lenD) (SimC.or len_sim lenD_sim) hg hm PySem.boot_len ha (by decide) (by decide) he hpl
end
section
variable {S : Sto} {Q : WK} {i : Nat}
theorem e_lenAS {z : Str} : vLenA [.str z] S Q = (z.length ≤ sizeLine ∧ Q (.int z.length) S) := by
  unfold vLenA
  rw [or_false_r (show ¬ vLenD [.str z] S Q from fun x => x), e_lenS]
theorem e_lenAT {ws : List W} : vLenA [.tup ws] S Q = Q (.int ws.length) S := by
  unfold vLenA
  rw [or_false_r (show ¬ vLenD [.tup ws] S Q from fun x => x), e_lenT]
theorem e_lenALit {ws : List W} : vLenA [.lit ws] S Q = Q (.int ws.length) S := by
  unfold vLenA
  rw [or_false_r (show ¬ vLenD [.lit ws] S Q from fun x => x), e_lenLit]
theorem e_lenAL {ws : List W} (h : S[i]? = some (.lst ws)) : vLenA [.ref i] S Q = Q (.int ws.length) S := by
  unfold vLenA
  rw [or_false_r (fun ⟨kvs, e, _⟩ => by rw [h] at e; cases e), e_lenL h]
theorem e_lenAD {kvs : List (Key × W)} (h : S[i]? = some (.dk kvs)) : vLenA [.ref i] S Q = Q (.int kvs.length) S := by
  unfold vLenA
  have no : ¬ vLen [.ref i] S Q := fun ⟨ws, e, _⟩ => by
    have e' : (match S[i]? with | some (.lst ws) => some ws | _ => none) = some ws := e
    rw [h] at e'
    cases e'
  rw [or_false_l no]
  show (∃ kvs, S[i]? = some (.dk kvs) ∧ Q (.int kvs.length) S) = _
  exact propext ⟨fun ⟨kvs', e, q⟩ => by rw [h] at e; cases e; exact q, fun q => ⟨kvs, h, q⟩⟩
end
/-! ### keys -/
theorem putW_new {kvs : List (Key × W)} {k : Key} {w : W} (h : valW kvs k = none) : putW kvs k w = kvs ++ [(k, w)] := by
  unfold putW
  rw [if_neg]
  intro a
  obtain ⟨p, hp, e⟩ := List.any_eq_true.mp a
  unfold valW at h
  have h2 := List.find?_eq_none.mp (Option.map_eq_none_iff.mp h) p hp
  exact h2 e
theorem valW_map {α : Type} {f : α → W} {g : α → Str} {x : Str} : ∀ {xs : List α}, (∀ a ∈ xs, ∀ b ∈ xs, g a = g b → a = b) → ∀ {a : α}, a ∈ xs → g a = x → valW (xs.map fun a => (Sum.inr (g a), f a)) (.inr x) = some (f a)
  | [], _, a, h, _ => by cases h
  | b :: xs, inj, a, h, e => by
    unfold valW
    rw [List.map_cons, List.find?_cons]
    by_cases hb : g b = x
    · have eab : b = a := inj b (List.mem_cons_self ..) a h (hb.trans e.symm)
      subst eab
      simp [hb]
    · have hne : decide ((Sum.inr (g b), f b).1 = (Sum.inr x : Key)) = false := by simp [hb]
      rw [hne]
      have hm : a ∈ xs := by
        rcases List.mem_cons.mp h with rfl | h
        · exact absurd e hb
        · exact h
      exact valW_map (fun c hc d hd => inj c (List.mem_cons_of_mem _ hc) d (List.mem_cons_of_mem _ hd)) hm e
theorem valW_none {α : Type} {f : α → W} {g : α → Str} {x : Str} : ∀ {xs : List α}, (∀ a ∈ xs, g a ≠ x) → valW (xs.map fun a => (Sum.inr (g a), f a)) (.inr x) = none
  | [], _ => rfl
  | b :: xs, h => by
    unfold valW
    rw [List.map_cons, List.find?_cons]
    have hne : decide ((Sum.inr (g b), f b).1 = (Sum.inr x : Key)) = false := by simp [h b (List.mem_cons_self ..)]
    rw [hne]
    exact valW_none fun a ha => h a (List.mem_cons_of_mem _ ha)
end DL

/-! DLj: what the laws' proofs share: the drawing state, ranges, lists of texts, sorted texts. -/
namespace DL
open PySem PySem.Spec PyProof.Rows L2
theorem sz0 : (0 ≤ sizeLine) = True := eq_true (Nat.zero_le _)
theorem sz1 : (1 ≤ sizeLine) = True := eq_true (by decide)
theorem sz2 : (2 ≤ sizeLine) = True := eq_true (by decide)
theorem sz3 : (3 ≤ sizeLine) = True := eq_true (by decide)
theorem sz4 : (4 ≤ sizeLine) = True := eq_true (by decide)
theorem sz5 : (5 ≤ sizeLine) = True := eq_true (by decide)
theorem sz6 : (6 ≤ sizeLine) = True := eq_true (by decide)
theorem le_sz {n : Nat} (h : n ≤ 99999) : n ≤ sizeLine := Nat.le_trans h (by decide)
theorem lt_sz {n : Nat} (h : n ≤ 99998) : n < sizeLine := Nat.lt_of_le_of_lt h (by decide)
abbrev stro (xs : List Str) : O := .lst (xs.map W.str)
structure Dr where
  cells : List Int
  seed : Int
/-- the drawing state: a list of cells, and the pair of it and a number, at 1 -/
abbrev B (st : Dr) (R : Sto) : Sto := .lst (st.cells.map W.int) :: .lst [.ref 0, .int st.seed] :: R
theorem closed_B {st st' : Dr} {R : Sto} (h : Closed (B st R)) : Closed (B st' R) := by
  rw [closed_iff] at h ⊢
  intro o ho
  rcases List.mem_cons.mp ho with rfl | ho
  · exact bndL_ints _ _
  · rcases List.mem_cons.mp ho with rfl | ho
    · show (decide (0 < R.length + 1 + 1) && (true && true)) = true
      simp
    · exact h o (List.mem_cons_of_mem _ (List.mem_cons_of_mem _ ho))
theorem endB {st st' : Dr} {R : Sto} {Q : WK} {w : W} (cl : Closed (B st R)) (hp : w.pure = true) (q : Q w (B st' R)) : Ends0 (R.length + 1 + 1) Q w (B st' R) :=
  Ends0.keep (Nat.le_refl _) (closed_B cl) (pure_bnd _ _ hp) q
theorem endBT {st st' : Dr} {R : Sto} {Q : WK} {w : W} (T : Sto) (cl : Closed (B st R)) (hp : w.pure = true) (q : Q w (B st' R)) : Ends0 (R.length + 1 + 1) Q w (B st' (R ++ T)) :=
  Ends0.drop (S0 := B st' R) T (Nat.le_refl _) (closed_B cl) (pure_bnd _ _ hp) q
theorem closed_BR {st : Dr} {R : Sto} (h : ∀ o ∈ R, o.bnd (R.length + 1 + 1) = true) : Closed (B st R) := by
  rw [closed_iff]
  intro o ho
  rcases List.mem_cons.mp ho with rfl | ho
  · exact bndL_ints _ _
  · rcases List.mem_cons.mp ho with rfl | ho
    · show (decide (0 < R.length + 1 + 1) && (true && true)) = true
      simp
    · exact h o ho
theorem closed_set {st st' : Dr} {R : Sto} {j : Nat} {o : O} (h : Closed (B st R)) (ho : o.bnd (R.length + 1 + 1) = true) : Closed (B st' (R.set j o)) := by
  have h' := closed_B (st' := st') h
  rw [closed_iff] at h' ⊢
  intro x hx
  have e : (B st' (R.set j o)).length = (B st' R).length := by simp
  rw [e]
  rcases List.mem_cons.mp hx with rfl | hx
  · exact h' _ (List.mem_cons_self ..)
  · rcases List.mem_cons.mp hx with rfl | hx
    · exact h' _ (List.mem_cons_of_mem _ (List.mem_cons_self ..))
    · rcases List.mem_or_eq_of_mem_set hx with hx | rfl
      · exact h' _ (List.mem_cons_of_mem _ (List.mem_cons_of_mem _ hx))
      · exact ho
theorem rng_get {n i : Nat} {x : W} (h : (rngW 0 n)[i]? = some x) : i < n ∧ x = .int (i : Int) := by
  unfold rngW at h
  rw [List.getElem?_map] at h
  by_cases hi : i < n
  · rw [List.getElem?_range hi] at h
    refine ⟨hi, ?_⟩
    have := Option.some.inj h
    rw [← this]
    simp
  · rw [List.getElem?_eq_none (by simpa using hi)] at h
    cases h
theorem rng_len {lo : Int} {n : Nat} : (rngW lo n).length = n := by
  unfold rngW
  rw [List.length_map, List.length_range]
theorem map_get {α : Type} {f : α → W} {xs : List α} {i : Nat} {x : W} (h : (xs.map f)[i]? = some x) : ∃ a, xs[i]? = some a ∧ x = f a ∧ a ∈ xs ∧ i < xs.length := by
  rw [List.getElem?_map] at h
  obtain ⟨a, h1, h2⟩ := Option.map_eq_some_iff.mp h
  exact ⟨a, h1, h2.symm, List.mem_of_getElem? h1, (List.getElem?_eq_some_iff.mp h1).1⟩
theorem at_map {α : Type} {f : α → W} {xs : List α} {r : Int} (h0 : 0 ≤ r) (h1 : r < xs.length) : ∃ x, x ∈ xs ∧ xs[r.toNat]? = some x ∧ atI (xs.map f) r = some (f x) := by
  have hl : r.toNat < xs.length := by omega
  refine ⟨xs[r.toNat], List.getElem_mem hl, List.getElem?_eq_getElem hl, ?_⟩
  have e : r = ((r.toNat : Nat) : Int) := by omega
  exact (congrArg (atI (xs.map f)) e).trans (atI_nat (by rw [List.getElem?_map]; simp [hl]))
theorem flW_strs (xs : List Str) : (xs.map W.str).all flW = true := by
  rw [List.all_map]
  exact List.all_eq_true.mpr fun _ _ => rfl
theorem inW_strs (x : Str) : ∀ xs : List Str, inW (.str x) (xs.map W.str) = decide (x ∈ xs)
  | [] => rfl
  | y :: ys => by
    show (eqW (.str y) (.str x) || inW (.str x) (ys.map W.str)) = _
    rw [inW_strs x ys]
    show ((y == x) || decide (x ∈ ys)) = decide (x ∈ y :: ys)
    by_cases h : y = x
    · subst h
      simp
    · have h2 : ¬ x = y := fun e => h e.symm
      simp [h, h2]
theorem pop1_ok {S : Sto} {Q : WK} {i j : Nat} {zs : List W} {n : Int} {y : W} (h : S[i]? = some (.lst zs)) (e : n = (j : Int)) (hy : zs[j]? = some y) (hl : zs.length ≤ 99999) (q : Q y (S.set i (.lst (zs.eraseIdx j)))) : vPop1 (.ref i) [.int n] S Q := by
  have hj := (List.getElem?_eq_some_iff.mp hy).1
  subst e
  refine ⟨zs, j, y, h, ?_, ?_, ixN_nat hj, hy, q⟩
  · have : (0 : Int) ≤ (j : Int) := Int.natCast_nonneg _
    have h2 : -(2 ^ 63 : Int) ≤ 0 := by decide
    omega
  · have h2 : (99999 : Int) < 2 ^ 63 := by decide
    omega
/-! ### sorted texts -/
theorem alike_strs (xs : List Str) : PySem.W.AllAlike ((xs.map W.str).map datW) := by
  intro x hx y hy
  rw [List.map_map] at hx hy
  obtain ⟨a, _, rfl⟩ := List.mem_map.mp hx
  obtain ⟨b, _, rfl⟩ := List.mem_map.mp hy
  rfl
theorem sortable_strs (xs : List Str) : PySem.W.Sortable ((xs.map W.str).map datW) := by
  refine .inr fun x hx => ?_
  rw [List.map_map] at hx
  obtain ⟨a, _, rfl⟩ := List.mem_map.mp hx
  show PyData.str a ≠ .none ∧ ∀ ys, PyData.str a ≠ .tuple ys
  exact ⟨by simp, by simp⟩
theorem depth_strs (xs : List Str) : ∀ w ∈ xs.map W.str, (datW w).depth ≤ 60 := by
  intro w hw
  obtain ⟨a, _, rfl⟩ := List.mem_map.mp hw
  show (PyData.str a).depth ≤ 60
  simp only [PyData.depth]
  decide
def strLe (a b : Str) : Bool := leW (.str a) (.str b)
theorem sorted_strs (xs : List Str) : (xs.map W.str).mergeSort leW = (xs.mergeSort strLe).map W.str :=
  (List.map_mergeSort (r := strLe) (s := leW) (f := W.str) (l := xs) fun _ _ _ _ => rfl).symm
theorem sorted_strs_ok {S : Sto} {Q : WK} {i : Nat} {xs : List Str} (h : S[i]? = some (stro xs)) (q : Q (.ref S.length) (S ++ [stro (xs.mergeSort strLe)])) : vSorted [.ref i] S Q := by
  refine ⟨xs.map W.str, h, pureL_strs xs, alike_strs xs, sortable_strs xs, depth_strs xs, ?_⟩
  rw [sorted_strs]
  exact q
end DL

/-! DLk: membership of any data in a list. -/
namespace DL
open PySem PySem.Spec PyProof.Rows L2
def vInP (neg : Bool) (x y : W) (S : Sto) (Q : WK) : Prop := match y with
  | .ref p => ∃ ws, S[p]? = some (.lst ws) ∧ x.pure = true ∧ W.pureL ws = true ∧ SeqAt.shaped (datW x) = true ∧ SeqAt.shaped (.list (datWs ws)) = true ∧ Q (.bl (neg ^^ (datWs ws).any fun z => PyData.eqv z (datW x))) S
  | _ => False
theorem dp_list {K : Fg} {r : List Addr} {H : Hp} {a : Addr} {vs : List V} {ws : List W} (h : H a = some (.lst vs)) (l : RepL K r H vs ws) (p : W.pureL ws = true) : Dp K H (.ref a) (.list (datWs ws)) := .lst (.of h) (dpL_of l p)
theorem inP_sim {K : Fg} : SimR K (rInD K) (vInP false) := by
  intro r H S x y wx wy Q Q0 R px py d k
  cases py <;> try exact d.elim
  rename_i a j h
  obtain ⟨ws, h0, p1, p2, s1, s2, q⟩ := d
  obtain ⟨vs, h3, l⟩ := R.obj j _ _ h h0
  rw [Bool.false_xor] at q
  exact ⟨_, _, dp_of px p1, dp_list h3 l p2, s1, s2, k r H S _ _ .refl R (.bl _) q⟩
theorem notinP_sim {K : Fg} : SimR K (rNotInD K) (vInP true) := by
  intro r H S x y wx wy Q Q0 R px py d k
  cases py <;> try exact d.elim
  rename_i a j h
  obtain ⟨ws, h0, p1, p2, s1, s2, q⟩ := d
  obtain ⟨vs, h3, l⟩ := R.obj j _ _ h h0
  rw [Bool.true_xor] at q
  exact ⟨_, _, dp_of px p1, dp_list h3 l p2, s1, s2, k r H S _ _ .refl R (.bl _) q⟩
section
variable {X : Cx} {a b : Expr} {da db : DE} {pos : Pos} {k : Nat}
theorem u65 (hr : Room k X.A) : X.A.units + 65 < cLine := by have := hr.un; omega
theorem x_inP (hr : Room k X.A) (ha : XE X a da) (hb : XE X b db) (hm : behindInMarks .In b = false := by rfl) : XE X (.Compare a [.In] [b] pos) (dOp (vInP false) da db) := xe_cmp (op_inD (u65 hr)) inP_sim ha hb hm
theorem x_notinP (hr : Room k X.A) (ha : XE X a da) (hb : XE X b db) (hm : behindInMarks .NotIn b = false := by rfl) : XE X (.Compare a [.NotIn] [b] pos) (dOp (vInP true) da db) := xe_cmp (op_notInD (u65 hr)) notinP_sim ha hb hm
theorem t_inP (hr : Room k X.A) (ha : XE X a da) (hb : XE X b db) (hm : behindInMarks .In b = false := by rfl) : XT X (.Compare a [.In] [b] pos) (dB (dOp (vInP false) da db)) := xt_cmp (op_inD (u65 hr)) inP_sim ha hb hm
theorem t_notinP (hr : Room k X.A) (ha : XE X a da) (hb : XE X b db) (hm : behindInMarks .NotIn b = false := by rfl) : XT X (.Compare a [.NotIn] [b] pos) (dB (dOp (vInP true) da db)) := xt_cmp (op_notInD (u65 hr)) notinP_sim ha hb hm
end
/-! ### tuples of texts -/
abbrev tupS (xs : List Str) : W := .tup (xs.map W.str)
theorem dat_strs : ∀ xs : List Str, datWs (xs.map W.str) = xs.map PyData.str
  | [] => rfl
  | x :: xs => by
    show PyData.str x :: datWs (xs.map W.str) = _
    rw [dat_strs xs]
    rfl
theorem lay_strs : ∀ xs : List Str, (∀ x ∈ xs, PyData.strOk x = true) → PyData.canLayAll0 (xs.map PyData.str) = true
  | [], _ => by simp [PyData.canLayAll0]
  | x :: xs, h => by
    have h1 := h x (List.mem_cons_self ..)
    have h2 := lay_strs xs fun y hy => h y (List.mem_cons_of_mem _ hy)
    simp [PyData.canLayAll0, PyData.canLay0, h1, h2]
theorem dep_strs : ∀ xs : List Str, PyData.depthAll (xs.map PyData.str) = 0
  | [] => by simp [PyData.depthAll]
  | x :: xs => by simp [PyData.depthAll, PyData.depth, dep_strs xs]
theorem shaped_tupS {xs : List Str} (h : ∀ x ∈ xs, PyData.strOk x = true) : SeqAt.shaped (datW (tupS xs)) = true := by
  show SeqAt.shaped (.tuple (datWs (xs.map W.str))) = true
  rw [dat_strs]
  simp [SeqAt.shaped, PyData.canLay0, PyData.depth, lay_strs xs h, dep_strs]
theorem dat_tups : ∀ xss : List (List Str), datWs (xss.map tupS) = xss.map fun xs => PyData.tuple (xs.map PyData.str)
  | [] => rfl
  | xs :: xss => by
    show PyData.tuple (datWs (xs.map W.str)) :: datWs (xss.map tupS) = _
    rw [dat_strs, dat_tups xss]
    rfl
theorem lay_tups : ∀ xss : List (List Str), (∀ xs ∈ xss, ∀ x ∈ xs, PyData.strOk x = true) → PyData.canLayAll0 (xss.map fun xs => PyData.tuple (xs.map PyData.str)) = true
  | [], _ => by simp [PyData.canLayAll0]
  | xs :: xss, h => by
    have h1 := lay_strs xs (h xs (List.mem_cons_self ..))
    have h2 := lay_tups xss fun y hy => h y (List.mem_cons_of_mem _ hy)
    simp only [List.map_cons, PyData.canLayAll0, PyData.canLay0, h1, h2]
    rfl
theorem dep_tups : ∀ xss : List (List Str), PyData.depthAll (xss.map fun xs => PyData.tuple (xs.map PyData.str)) ≤ 1
  | [] => by simp [PyData.depthAll]
  | xs :: xss => by
    have h := dep_tups xss
    simp only [List.map_cons, PyData.depthAll, PyData.depth, dep_strs xs]
    omega
theorem shaped_tups {xss : List (List Str)} (h : ∀ xs ∈ xss, ∀ x ∈ xs, PyData.strOk x = true) : SeqAt.shaped (.list (datWs (xss.map tupS))) = true := by
  rw [dat_tups]
  have h1 := lay_tups xss h
  have h2 := dep_tups xss
  unfold SeqAt.shaped
  rw [Bool.and_eq_true, decide_eq_true_eq]
  refine ⟨by simpa only [PyData.canLay0] using h1, ?_⟩
  rw [PyData.depth]
  omega
theorem eqv_strs : ∀ xs ys : List Str, PyData.eqvAll (xs.map PyData.str) (ys.map PyData.str) = decide (xs = ys)
  | [], [] => by simp [PyData.eqvAll]
  | [], _ :: _ => by simp [PyData.eqvAll]
  | _ :: _, [] => by simp [PyData.eqvAll]
  | x :: xs, y :: ys => by
    simp only [List.map_cons, PyData.eqvAll, PyData.eqv, eqv_strs xs ys]
    by_cases h : x = y
    · subst h
      simp
    · simp [h]
theorem any_tups (x : List Str) : ∀ xss : List (List Str), ((datWs (xss.map tupS)).any fun z => PyData.eqv z (datW (tupS x))) = decide (x ∈ xss)
  | [] => rfl
  | xs :: xss => by
    have ih := any_tups x xss
    show (PyData.eqv (datW (tupS xs)) (datW (tupS x)) || _) = _
    rw [ih]
    have e : PyData.eqv (datW (tupS xs)) (datW (tupS x)) = decide (xs = x) := by
      show PyData.eqv (.tuple (datWs (xs.map W.str))) (.tuple (datWs (x.map W.str))) = _
      rw [dat_strs, dat_strs]
      simp only [PyData.eqv, eqv_strs]
    rw [e]
    by_cases h : xs = x
    · subst h
      simp
    · have h2 : ¬ x = xs := fun e => h e.symm
      simp [h, h2]
theorem pureL_tups (xss : List (List Str)) : W.pureL (xss.map tupS) = true := pureL_of fun w hw => by
  obtain ⟨xs, _, rfl⟩ := List.mem_map.mp hw
  exact pureL_strs xs
theorem inP_tups {S : Sto} {Q : WK} {i : Nat} {xss : List (List Str)} {x : List Str} (neg : Bool) (h : S[i]? = some (.lst (xss.map tupS))) (h1 : ∀ xs ∈ xss, ∀ x ∈ xs, PyData.strOk x = true) (h2 : ∀ y ∈ x, PyData.strOk y = true) (q : Q (.bl (neg ^^ decide (x ∈ xss))) S) :
    vInP neg (tupS x) (.ref i) S Q := by
  refine ⟨_, h, pureL_strs x, pureL_tups xss, shaped_tupS h2, shaped_tups h1, ?_⟩
  rw [any_tups]
  exact q
/-! ### not, of any value -/
def dNotU (da : DE) : DE := fun env S Q => da env S fun w S1 => vTru w S1 fun b => Q (.bl (!b)) S1
theorem xe_notU {X : Cx} {a : Expr} {da : DE} {pos : Pos} (ha : XE X a da) : XE X (.UnaryOp .Not a pos) (dNotU da) := by
  obtain ⟨t, p, s⟩ := ha.ex
  refine ⟨_, pe_notT p, fun r H S s' env Q Q0 R E g k => ?_⟩
  refine s r H S s' env _ _ R E g fun r1 H1 S1 v w e1 R1 q1 d1 => ?_
  obtain ⟨c, h1, h2⟩ := tru_sim R1 q1 d1
  exact ⟨c, h1, k r1 H1 S1 _ _ e1 R1 (.bl _) h2⟩
theorem e_notU {da : DE} {env : Slots} {S : Sto} {Q : WK} : dNotU da env S Q = da env S fun w S1 => vTru w S1 fun b => Q (.bl (!b)) S1 := rfl
theorem e_isI {n : Bool} {i : Int} {S : Sto} {Q : WK} : vIs n (.int i) .non S Q = Q (.bl n) S := rfl
theorem e_isS {n : Bool} {i : Str} {S : Sto} {Q : WK} : vIs n (.str i) .non S Q = Q (.bl n) S := rfl
theorem e_isT {n : Bool} {i : List W} {S : Sto} {Q : WK} : vIs n (.tup i) .non S Q = Q (.bl n) S := rfl
theorem e_isR {n : Bool} {i : Nat} {S : Sto} {Q : WK} : vIs n (.ref i) .non S Q = Q (.bl n) S := rfl
theorem e_isN {n : Bool} {S : Sto} {Q : WK} : vIs n .non .non S Q = Q (.bl (!n)) S := rfl
theorem atI_4 {α : Type} {x y z u v : α} {xs : List α} : atI (x :: y :: z :: u :: v :: xs) 4 = some v := atI_nat (j := 4) rfl
theorem atI_5 {α : Type} {x y z u v t : α} {xs : List α} : atI (x :: y :: z :: u :: v :: t :: xs) 5 = some t := atI_nat (j := 5) rfl
end DL

/-! DLs: sorting equal bags gives one list; sorted tuples of texts. -/
namespace DL
open PySem PySem.Spec PyProof.Rows L2
abbrev tk (w : W) : List (Int ⊕ List Nat) := PySem.W.keyToks (datW w)
theorem leW_kle (a b : W) : leW a b = true ↔ (listOrd itemOrd).kle (tk a) (tk b) := by
  show (!lexLt itemOrd (tk b) (tk a)) = true ↔ lexLt itemOrd (tk b) (tk a) = false
  cases lexLt itemOrd (tk b) (tk a) <;> simp
theorem sort_perm {α : Type} {enc : α → W} {A B : List α} (inj : ∀ a b, tk (enc a) = tk (enc b) → a = b) (h : A.Perm B) : A.mergeSort (fun a b => leW (enc a) (enc b)) = B.mergeSort (fun a b => leW (enc a) (enc b)) := by
  have tr : ∀ a b c : α, leW (enc a) (enc b) = true → leW (enc b) (enc c) = true → leW (enc a) (enc c) = true := fun a b c h1 h2 => by
    rw [leW_kle] at *
    exact KeyOrd.kle_trans h1 h2
  have tot : ∀ a b : α, (leW (enc a) (enc b) || leW (enc b) (enc a)) = true := fun a b => by
    rw [Bool.or_eq_true, leW_kle, leW_kle]
    unfold KeyOrd.kle
    cases e : (listOrd itemOrd).blt (tk (enc b)) (tk (enc a)) with
    | false => exact .inl rfl
    | true => exact .inr (KeyOrd.klt_asymm e)
  have s1 := List.pairwise_mergeSort tr tot A
  have s2 := List.pairwise_mergeSort tr tot B
  refine List.Perm.eq_of_pairwise (le := fun a b => leW (enc a) (enc b) = true) (fun a b _ _ h1 h2 => ?_) s1 s2 (((List.mergeSort_perm A _).trans h).trans (List.mergeSort_perm B _).symm)
  rw [leW_kle] at h1 h2
  exact inj a b (KeyOrd.kle_antisymm h1 h2)
theorem tk_str (x : Str) : tk (.str x) = [.inr x.cps.toList] := by
  show PySem.W.keyToks (.str x) = _
  simp only [PySem.W.keyToks]
theorem str_inj (a b : Str) (h : tk (.str a) = tk (.str b)) : a = b := by
  rw [tk_str, tk_str] at h
  exact PySem.W.str_of_cps (Sum.inr.inj (List.cons.inj h).1)
theorem toks_inj : ∀ xs ys : List Str, PySem.W.keyToksAll (xs.map PyData.str) = PySem.W.keyToksAll (ys.map PyData.str) → xs = ys
  | [], [], _ => rfl
  | [], y :: ys, h => by
    simp [PySem.W.keyToksAll] at h
  | x :: xs, [], h => by
    simp [PySem.W.keyToksAll] at h
  | x :: xs, y :: ys, h => by
    simp only [List.map_cons, PySem.W.keyToksAll, PySem.W.keyToks] at h
    have h2 := (List.cons.inj h).2
    have h3 := (List.cons.inj h2).1
    have h4 := (List.cons.inj h2).2
    rw [PySem.W.str_of_cps (Sum.inr.inj h3), toks_inj xs ys h4]
theorem tupS_inj (a b : List Str) (h : tk (tupS a) = tk (tupS b)) : a = b := by
  have e : ∀ a : List Str, tk (tupS a) = PySem.W.keyToksAll (a.map PyData.str) := fun a => by
    show PySem.W.keyToks (.tuple (datWs (a.map W.str))) = _
    rw [dat_strs]
    simp only [PySem.W.keyToks]
  rw [e, e] at h
  exact toks_inj a b h
theorem sort_strs_perm {A B : List Str} (h : A.Perm B) : A.mergeSort strLe = B.mergeSort strLe := sort_perm (enc := W.str) str_inj h
def tupLe (a b : List Str) : Bool := leW (tupS a) (tupS b)
theorem sort_tups_perm {A B : List (List Str)} (h : A.Perm B) : A.mergeSort tupLe = B.mergeSort tupLe := sort_perm (enc := tupS) tupS_inj h
theorem alike_strs2 : ∀ (a b : List Str), PySem.W.alikeAll (datWs (a.map W.str)) (datWs (b.map W.str)) = true
  | [], _ => by simp [datWs, PySem.W.alikeAll]
  | _ :: _, [] => by simp [datWs, PySem.W.alikeAll]
  | x :: a, y :: b => by
    have ih := alike_strs2 a b
    simp only [List.map_cons, datWs, PySem.W.alikeAll, ih]
    rfl
theorem sorted_tups_ok {S : Sto} {Q : WK} {i : Nat} {xss : List (List Str)} (h : S[i]? = some (.lst (xss.map tupS))) (hne : ∀ xs ∈ xss, xs ≠ []) (q : Q (.ref S.length) (S ++ [.lst ((xss.mergeSort tupLe).map tupS)])) : vSorted [.ref i] S Q := by
  refine ⟨xss.map tupS, h, pureL_tups xss, ?_, ?_, ?_, ?_⟩
  · intro x hx y hy
    rw [List.map_map] at hx hy
    obtain ⟨a, _, rfl⟩ := List.mem_map.mp hx
    obtain ⟨b, _, rfl⟩ := List.mem_map.mp hy
    show PySem.W.alike (.tuple (datWs (a.map W.str))) (.tuple (datWs (b.map W.str))) = true
    simp only [PySem.W.alike, alike_strs2]
  · refine .inl fun x hx => ?_
    rw [List.map_map] at hx
    obtain ⟨a, ha, rfl⟩ := List.mem_map.mp hx
    cases a with
    | nil => exact absurd rfl (hne [] ha)
    | cons z r => exact ⟨_, _, rfl⟩
  · intro w hw
    obtain ⟨a, _, rfl⟩ := List.mem_map.mp hw
    show (PyData.tuple (datWs (a.map W.str))).depth ≤ 60
    rw [dat_strs]
    simp only [PyData.depth, dep_strs]
    decide
  · have e : (xss.map tupS).mergeSort leW = (xss.mergeSort tupLe).map tupS :=
      (List.map_mergeSort (r := tupLe) (s := leW) (f := tupS) (l := xss) fun _ _ _ _ => rfl).symm
    rw [e]
    exact q
end DL

/-! DLt: sets whose members are tuples of any depth (fewer than 64), at the library's level. -/
namespace NS
open PySem PySem.Spec PyProof.Rows L2
section
variable {P : Program} {w : World} {A : Around} {E : Value → Shared → Prop}
mutual
theorem clsQ : ∀ (k : NestedKey) (v : Value) (n : Nat) (s : Shared) (Q : Bool → Shared → Prop), NestedIs s.heap k v → k.depth ≤ n → Q false s → wpAny (model P w) A (ofAClassStatement n v) Q E s
  | .none, _, n, s, Q, x, _, q => by cases x; cases n <;> exact wpAny_pure q
  | .num i, _, n, s, Q, x, _, q => by cases x <;> cases n <;> exact wpAny_pure q
  | .text y, _, n, s, Q, x, _, q => by cases x; cases n <;> exact wpAny_pure q
  | .tup ks, _, n, s, Q, x, hn, q => by
    cases x with
    | @tup b ob vs m _ hg hc hd hk =>
      simp only [NestedKey.depth] at hn
      cases n with
      | zero => omega
      | succ n =>
        have hT : s.TypeIs (.ref b) "tuple" := ⟨ob, hg, hc⟩
        unfold ofAClassStatement
        refine wpAny_bind (wpAny_typeOf hT ?_)
        dsimp only
        have e : (("tuple" : String) == "tuple") = true := by decide
        simp only [e, if_true, Bool.not_true, Bool.false_eq_true, if_false]
        try refine wpAny_bind (wpAny_pure ?_)
        try simp only [Bool.not_true, Bool.false_eq_true, if_false]
        refine wpAny_bind (wpAny_seqItems hg hd ?_)
        dsimp only
        refine wpAny_bind ?_
        rw [← Array.forIn_toList]
        refine wpAny_forIn_list _ (fun us r z => r.1 = none ∧ z = s ∧ ∃ js, NestedAll s.heap js us ∧ NestedKey.depthAll js ≤ n) _ ?_ ?_ _ _ ⟨rfl, rfl, ks, hk, by omega⟩
        · rintro v us r z ⟨hr, rfl, js, ha, hd2⟩
          cases ha with
          | @cons j _ js _ a1 a2 =>
            simp only [NestedKey.depthAll] at hd2
            refine wpAny_bind (clsQ j v n z _ a1 (by omega) ?_)
            simp only [Bool.false_eq_true, if_false]
            exact wpAny_pure ⟨rfl, rfl, js, a2, by omega⟩
        · rintro ⟨r1, r2⟩ z ⟨hr, rfl, _⟩
          simp only at hr
          subst hr
          exact wpAny_pure q
end
theorem hbvQ : ∀ (n : Nat) (k : NestedKey) (v : Value) (s : Shared) (Q : Bool → Shared → Prop), NestedIs s.heap k v → (∀ r, Q r s) → wpAny (model P w) A (hashByValue n v) Q E s
  | n, .none, _, s, Q, x, q => by cases x; cases n <;> exact wpAny_pure (q _)
  | n, .num i, _, s, Q, x, q => by cases x <;> cases n <;> exact wpAny_pure (q _)
  | n, .text y, _, s, Q, x, q => by cases x; cases n <;> exact wpAny_pure (q _)
  | 0, .tup ks, _, s, Q, x, q => by cases x; exact wpAny_pure (q _)
  | n + 1, .tup ks, _, s, Q, x, q => by
    cases x with
    | @tup b ob vs m _ hg hc hd hk =>
      have hT : s.TypeIs (.ref b) "tuple" := ⟨ob, hg, hc⟩
      unfold hashByValue
      refine wpAny_bind (wpAny_specialOf hT F.slot_tuple_hash.lookup ?_)
      refine wpAny_bind (wpAny_seqItems hg hd ?_)
      refine wpAny_bind ?_
      show wpAny _ _ (forIn vs _ _) _ _ s
      rw [← Array.forIn_toList]
      refine wpAny_forIn_list _ (fun us r z => r.1 = none ∧ z = s ∧ ∃ js, NestedAll s.heap js us) _ ?_ ?_ _ _ ⟨rfl, rfl, ks, hk⟩
      · rintro v us r z ⟨hr, rfl, js, ha⟩
        cases ha with
        | @cons j _ js _ a1 a2 =>
          refine wpAny_bind (hbvQ n j v z _ a1 fun c => ?_)
          cases c
          · simp only [Bool.not_false, if_true]
            exact wpAny_pure (wpAny_pure (q false))
          · simp only [Bool.not_true, Bool.false_eq_true, if_false]
            exact wpAny_pure ⟨rfl, rfl, js, a2⟩
      · rintro ⟨r1, r2⟩ z ⟨hr, rfl, _⟩
        simp only at hr
        subst hr
        exact wpAny_pure (q true)
/-- b is the tuple k, not too deep -/
abbrev NI (P : Program) (w : World) (h : Heap) (k : NestedKey) (b : Addr) : Prop := (nestedKind P w).is h k b
variable {s : Shared}
theorem seenQ {k : NestedKey} {b : Addr} {Q : Bool → Shared → Prop} (hk : NI P w s.heap k b) {ys : List Value} (hy : ∀ y ∈ ys, ∃ j c, y = Value.ref c ∧ NI P w s.heap j c) (q : Q false s) :
    wpAny (model P w) A (searchCouldBeSeen (.ref b) ys) Q E s := by
  unfold searchCouldBeSeen
  refine wpAny_bind ?_
  refine wpAny_forIn_list _ (fun us r z => r.1 = none ∧ z = s ∧ ∀ y ∈ us, ∃ j c, y = Value.ref c ∧ NI P w s.heap j c) _ ?_ ?_ _ _ ⟨rfl, rfl, hy⟩
  · rintro v us r z ⟨hr, rfl, all⟩
    obtain ⟨j, c, rfl, hc⟩ := all v List.mem_cons_self
    have more : ∀ y ∈ us, ∃ j c, y = Value.ref c ∧ NI P w z.heap j c := fun u hu => all u (List.mem_cons_of_mem _ hu)
    dsimp only
    by_cases hv : (b == c || (carriedByValue (.ref b) && carriedByValue (.ref c))) = true
    · exact wp_if_pos hv (wpAny_pure ⟨rfl, rfl, more⟩)
    · refine wp_if_neg hv (wpAny_bind ((nestedKind P w).quiet hk ?_))
      simp only [Bool.not_true, Bool.false_eq_true, if_false]
      refine wpAny_bind ((nestedKind P w).quiet hc ?_)
      simp only [Bool.not_true, Bool.false_eq_true, if_false]
      refine wpAny_bind (clsQ k _ 8 z _ hk.1 hk.2 ?_)
      simp only [Bool.false_eq_true, if_false]
      refine wpAny_bind (clsQ j _ 8 z _ hc.1 hc.2 ?_)
      simp only [Bool.false_eq_true, if_false]
      exact wpAny_pure ⟨rfl, rfl, more⟩
  · rintro ⟨r1, r2⟩ z ⟨hr, rfl, _⟩
    simp only at hr
    subst hr
    exact wpAny_pure q
end
end NS

/-! DLu: the search and the adding in a set of tuples. -/
namespace NS
open PySem PySem.Spec PyProof.Rows L2
section
variable (w : World)
/-- a member: where its tuple lies, which key it is -/
abbrev Mem := Addr × NestedKey
abbrev hN (k : NestedKey) : Int := k.hash w
def entries (M : List Mem) : List (Int × Value) := M.map fun m => (hN w m.2, Value.ref m.1)
abbrev hashesN (M : List Mem) : List Int := M.map fun m => hN w m.2
end
variable {P : Program} {w : World} {A : Around} {E : Value → Shared → Prop} {s : Shared}
structure SetN (P : Program) (w : World) (h : Heap) (a : Addr) (M : List Mem) (es : Array (Int × Value)) (ep : Nat) (t : SetTable) : Prop where
  here : ∃ o, h.get? a = some o ∧ o.ExactSet ∧ o.data = .set es ep t
  ents : es.toList = entries w M
  tab : TabOk t (hashesN w M)
  uni : (M.map (·.2)).Nodup
  mem : ∀ m ∈ M, NI P w h m.2 m.1
  led : w.params.followText "set-order" = true ∨ t.led = true
  room : M.length * 5 < t.mask * 3
  few : M.length < 64
variable {a : Addr} {M : List Mem} {es : Array (Int × Value)} {ep : Nat} {t : SetTable}
theorem entries_size {w : World} {M : List Mem} {es : Array (Int × Value)} (h : es.toList = entries w M) : es.size = M.length := by
  have e := congrArg List.length h
  unfold entries at e
  rwa [Array.length_toList, List.length_map] at e
theorem entry_at {w : World} {M : List Mem} {es : Array (Int × Value)} (h : es.toList = entries w M) {i : Nat} {m : Mem} (hm : M[i]? = some m) : es[i]? = some (hN w m.2, Value.ref m.1) := by
  rw [← Array.getElem?_toList, h]
  unfold entries
  rw [List.getElem?_map, hm]
  rfl
theorem fits_of {w : World} {M : List Mem} {es : Array (Int × Value)} {t : SetTable} (h : es.toList = entries w M) (T : TabOk t (hashesN w M)) (r : M.length ≤ t.mask) : t.fits es.size = true := by
  have z := T.sz
  rw [List.length_map] at z
  have z2 := entries_size h
  unfold SetTable.fits SetTable.fill
  rw [T.dm, Bool.and_eq_true, beq_iff_eq, decide_eq_true_eq]
  show t.place.size = es.size ∧ t.place.size + 0 ≤ t.mask
  omega
theorem SetN.fits (R : SetN P w s.heap a M es ep t) : t.fits es.size = true := fits_of R.ents R.tab (by have := R.room; omega)
/-- the probe, c steps on from the start for h -/
abbrev pr (m : Nat) (h : Int) (c : Nat) : SetTable.Probe := nth m (runAt m (SetTable.bits h % (m + 1)) (SetTable.bits h)) c
theorem pr_more (m : Nat) (h : Int) (c q : Nat) : nth m (pr m h c) q = pr m h (c + q) := (nth_add m c _ q).symm
theorem pr_clean (m : Nat) (h : Int) (c : Nat) : (pr m h c).dummy = none := by
  have go : ∀ (n : Nat) (p : SetTable.Probe), p.dummy = none → (nth m p n).dummy = none := by
    intro n
    induction n with
    | zero => intro p hp; exact hp
    | succ n ih =>
      intro p hp
      refine ih (adv m p) ?_
      unfold adv
      split <;> exact hp
  exact go c _ rfl
/-- looking for k: K is the first empty slot of its way -/
theorem findQ (R : SetN P w s.heap a M es ep t) {x : Addr} {k : NestedKey} (hx : NI P w s.heap k x) (hu : A.units + 8 < cLine) {K : Nat} (h1 : K < 10 * SetTable.turns t.mask)
    (h2 : way t.mask (hN w k) K ∉ t.place.toList) (h3 : ∀ c, c < K → way t.mask (hN w k) c ∈ t.place.toList) {Q : SetFound → Shared → Prop}
    (yes : k ∈ M.map (·.2) → Q (.there none) s) (no : k ∉ M.map (·.2) → Q (.free (way t.mask (hN w k) K) false) s) :
    ∀ (f c : Nat) (st : Option SetTable.Probe), st.getD (t.probeStart (hN w k)) = pr t.mask (hN w k) c → c ≤ K → K - c < f →
      (∀ (i : Nat) m, M[i]? = some m → m.2 = k → ∃ d, c ≤ d ∧ d < K ∧ t.place.toList[i]? = some (way t.mask (hN w k) d)) →
      wpAny (model P w) A (setSearchFrom a (.ref x) (hN w k) true f st) Q E s := by
  intro f
  induction f with
  | zero => intro c st _ _ hf; exact absurd hf (Nat.not_lt_zero _)
  | succ f ih =>
    intro c st hst hc hf hre
    obtain ⟨o, ho, hex, hd⟩ := R.here
    have gw : ¬ t.gaveWay = true := by
      unfold SetTable.gaveWay
      rw [mask_odd R.tab.mok]
      decide
    rw [setSearchFrom_succ]
    refine wpAny_bind (wpAny_setState_of ho hd R.fits ?_)
    dsimp only
    refine wp_if_neg gw ?_
    try refine wpAny_bind (wpAny_pure ?_)
    have ej : ∀ q, (nth t.mask (pr t.mask (hN w k) c) q).j = way t.mask (hN w k) (c + q) := fun q => congrArg SetTable.Probe.j (pr_more _ _ c q)
    have sp := go_spec t R.tab.ris R.tab.dm (fun i => (es[i]?.map (·.1)).getD 0) (hN w k) (10 * SetTable.turns t.mask) (K - c) _ (pr_clean t.mask (hN w k) c) (by omega)
      (fun q hq => by rw [ej]; exact h3 (c + q) (by omega)) (by rw [ej, show c + (K - c) = K by omega]; exact h2)
    have hat : ∀ (i : Nat) m, M[i]? = some m → (es[i]?.map (·.1)).getD 0 = hN w m.2 := fun i m hm => by
      rw [entry_at R.ents hm]
      rfl
    rcases sp with ⟨q, i, hq, hi, hh, hno, hp⟩ | ⟨hno, hp⟩
    · have hp2 : t.probe (fun i => (es[i]?.map (·.1)).getD 0) (hN w k) (st.getD (t.probeStart (hN w k))) = some (.candidate (way t.mask (hN w k) (c + q)) i (pr t.mask (hN w k) (c + (q + 1)))) := by
        rw [hst, ← ej, ← pr_more]
        exact hp
      rw [hp2]
      dsimp only
      rw [ej] at hi
      have hil : i < M.length := by
        have a1 := (List.getElem?_eq_some_iff.mp hi).1
        have a2 := R.tab.sz
        rw [List.length_map] at a2
        rw [Array.length_toList] at a1
        omega
      have hm : M[i]? = some M[i] := List.getElem?_eq_getElem hil
      generalize M[i] = m at hm
      have hmM : m ∈ M := List.mem_of_getElem? hm
      have onward : wpAny (model P w) A (searchRest a (.ref x) (hN w k) true f es t (way t.mask (hN w k) (c + q)) i (pr t.mask (hN w k) (c + (q + 1)))) Q E s := by
        unfold searchRest
        rw [entry_at R.ents hm]
        dsimp only
        refine wpAny_bind (wpAny_holding ((nestedKind P w).eqBool hu (R.mem m hmM) hx ?_))
        refine wpAny_bind (wpAny_setState_of ho hd R.fits ?_)
        dsimp only
        by_cases hkk : m.2 = k
        · refine wp_if_pos (by simp [hkk]) (wpAny_pure (yes ?_))
          exact List.mem_map.mpr ⟨m, hmM, hkk⟩
        · refine wp_if_neg (by simp [hkk]) ?_
          try refine wpAny_bind (wpAny_pure ?_)
          rw [sameMem]
          dsimp only
          have hsl : t.slot (way t.mask (hN w k) (c + q)) = .live i := slot_live R.tab.ris hi
          simp only [if_true, hsl, entry_at R.ents hm]
          refine wpAny_bind (wpAny_isSame_ref_self (wpAny_bind (wpAny_pure ?_)))
          simp only [if_true]
          refine wp_if_neg (by simp [hkk]) ?_
          refine ih (c + (q + 1)) _ rfl (by omega) (by omega) fun i0 m0 g0 e0 => ?_
          obtain ⟨d, d1, d2, d3⟩ := hre i0 m0 g0 e0
          refine ⟨d, ?_, d2, d3⟩
          rcases Nat.lt_trichotomy d (c + q) with z | z | z
          · refine absurd ((hat i0 m0 g0).trans (congrArg (hN w) e0)) (hno (d - c) i0 (by omega) ?_)
            rw [ej, show c + (d - c) = d by omega]
            exact d3
          · rw [z] at d3
            have s0 := slot_live R.tab.ris d3
            rw [hsl] at s0
            injection s0 with s0
            rw [← s0, hm] at g0
            exact absurd ((congrArg Prod.snd (Option.some.inj g0)).trans e0) hkk
          · omega
      by_cases hl : t.led = true
      · refine wp_if_neg (by simp [hl]) ?_
        try refine wpAny_bind (wpAny_pure ?_)
        exact onward
      · refine wp_if_pos (by simp [hl]) (wpAny_bind (seenQ hx (fun y hy => ?_) ?_))
        · obtain ⟨e, he, ee⟩ := List.mem_map.mp hy
          have he1 : e ∈ es ∧ e.1 = hN w k := by simpa using he
          have he2 : e ∈ es.toList := by simpa using he1.1
          rw [R.ents] at he2
          obtain ⟨m2, hm2, e2⟩ := List.mem_map.mp he2
          refine ⟨m2.2, m2.1, ?_, R.mem m2 hm2⟩
          rw [← ee, ← e2]
        · refine wp_if_neg (by decide) ?_
          try refine wpAny_bind (wpAny_pure ?_)
          exact onward
    · have hp2 : t.probe (fun i => (es[i]?.map (·.1)).getD 0) (hN w k) (st.getD (t.probeStart (hN w k))) = some (.empty (way t.mask (hN w k) K) none) := by
        have e2 : way t.mask (hN w k) K = (nth t.mask (pr t.mask (hN w k) c) (K - c)).j := by
          rw [ej, show c + (K - c) = K by omega]
        rw [hst, e2]
        exact hp
      rw [hp2]
      dsimp only
      refine wpAny_pure (no fun hm => ?_)
      obtain ⟨m0, g0, e0⟩ := List.mem_map.mp hm
      obtain ⟨i0, hi0⟩ := List.mem_iff_getElem?.mp g0
      obtain ⟨d, d1, d2, d3⟩ := hre i0 m0 hi0 e0
      refine absurd ((hat i0 m0 hi0).trans (congrArg (hN w) e0)) (hno (d - c) i0 (by omega) ?_)
      rw [ej, show c + (d - c) = d by omega]
      exact d3
theorem searchQ (R : SetN P w s.heap a M es ep t) {x : Addr} {k : NestedKey} (hx : NI P w s.heap k x) (hu : A.units + 8 < cLine) {Q : SetFound → Shared → Prop} (yes : k ∈ M.map (·.2) → Q (.there none) s)
    (no : ∀ K, k ∉ M.map (·.2) → way t.mask (hN w k) K ∉ t.place.toList → (∀ c, c < K → way t.mask (hN w k) c ∈ t.place.toList) → Q (.free (way t.mask (hN w k) K) false) s) :
    wpAny (model P w) A (setSearch a (.ref x) (hN w k) true) Q E s := by
  have room := R.room
  obtain ⟨K, h1, h2, h3⟩ := R.tab.first (by rw [List.length_map]; omega) (hN w k)
  have hK : K < 100000 := by
    have z : 10 * SetTable.turns t.mask ≤ 1420 := by
      unfold SetTable.turns
      rcases R.tab.mok with e | e | e <;> omega
    omega
  unfold setSearch
  refine findQ R hx hu h1 h2 h3 yes (fun n => no K n h2 h3) 100000 0 none rfl (Nat.zero_le _) (by omega) fun i m hm hk => ?_
  have hi : (hashesN w M)[i]? = some (hN w k) := by
    rw [List.getElem?_map, hm, ← hk]
    rfl
  have hil : i < t.place.toList.length := by
    have a1 := (List.getElem?_eq_some_iff.mp hm).1
    have a2 := R.tab.sz
    rw [List.length_map] at a2
    rw [Array.length_toList]
    omega
  have hj := List.getElem?_eq_getElem hil
  obtain ⟨c, hc, e⟩ := R.tab.before h2 hi hj
  exact ⟨c, Nat.zero_le _, hc, by rw [hj, e]⟩
end NS

/-! DLv: adding to a set of tuples. -/
namespace NS
open PySem PySem.Spec PyProof.Rows L2
variable {P : Program} {w : World} {A : Around} {E : Value → Shared → Prop} {s : Shared}
variable {a : Addr} {M : List Mem} {es : Array (Int × Value)} {ep : Nat} {t : SetTable}
/-- a change of a set leaves the tuples -/
theorem ni_set {h h' : Heap} {k : NestedKey} {b : Addr} {o : Obj} (x : NI P w h k b) (ho : h.get? a = some o) (hd : o.data = .set es ep t) (hs : Heap.SameBut a h h') : NI P w h' k b :=
  ⟨NestedIs.at (fun c ob vs n hb hc => (hs.2 c fun e => by
    subst e
    rw [ho] at hb
    cases hb
    rw [hd] at hc
    cases hc).trans hb) k _ x.1, x.2⟩
theorem ni_keep {h h' : Heap} {k : NestedKey} {b : Addr} (x : NI P w h k b) (hk : ∀ c o, h.get? c = some o → h'.get? c = some o) : NI P w h' k b :=
  ⟨NestedIs.at (fun c ob vs n hb _ => hk c ob hb) k _ x.1, x.2⟩
theorem SetN.keep {h h' : Heap} (R : SetN P w h a M es ep t) (ha : ∀ o, h.get? a = some o → h'.get? a = some o) (hm : ∀ m ∈ M, NI P w h' m.2 m.1) : SetN P w h' a M es ep t := by
  obtain ⟨o, ho, r⟩ := R.here
  exact ⟨⟨o, ha o ho, r⟩, R.ents, R.tab, R.uni, hm, R.led, R.room, R.few⟩
/-- the entries in another sequence -/
theorem entries_order {w : World} (order : Array Nat) (h : es.toList = entries w M) (hp : order.toList.Perm (List.range M.length)) :
    ∃ M2, (order.filterMap (es[·]?)).toList = entries w M2 ∧ M2.Perm M ∧ hashesN w M2 = order.toList.map fun i => (es.map (·.1)).getD i 0 := by
  have go : ∀ l : List Nat, (∀ i ∈ l, i < M.length) → l.filterMap (fun i => es[i]?) = entries w (l.filterMap fun i => M[i]?) ∧ hashesN w (l.filterMap fun i => M[i]?) = l.map fun i => (es.map (·.1)).getD i 0 := by
    intro l
    induction l with
    | nil => intro _; exact ⟨rfl, rfl⟩
    | cons i l ih =>
      intro hl
      have hi := hl i List.mem_cons_self
      have hm := List.getElem?_eq_getElem hi
      obtain ⟨e1, e2⟩ := ih fun j hj => hl j (List.mem_cons_of_mem _ hj)
      rw [List.filterMap_cons_some (entry_at h hm), List.filterMap_cons_some hm, e1]
      refine ⟨rfl, ?_⟩
      show hN w (M[i]).2 :: hashesN w _ = _
      rw [e2, List.map_cons]
      congr 1
      have e5 : (es.map (·.1))[i]? = some (hN w (M[i]).2) := by
        rw [Array.getElem?_map, entry_at h hm]
        rfl
      simp [Array.getD_eq_getD_getElem?, e5]
  obtain ⟨e1, e2⟩ := go order.toList fun i hi => List.mem_range.mp (hp.mem_iff.mp hi)
  refine ⟨_, by first | (rw [Array.toList_filterMap]; exact e1) | simpa using e1, ?_, e2⟩
  refine (hp.filterMap _).trans ?_
  have all : ∀ n, n ≤ M.length → (List.range n).filterMap (fun i => M[i]?) = M.take n := by
    intro n
    induction n with
    | zero => intro _; rfl
    | succ n ih =>
      intro hn
      rw [List.range_succ, List.filterMap_append, ih (Nat.le_of_lt hn), List.take_succ, List.getElem?_eq_getElem hn, List.filterMap_cons_some (List.getElem?_eq_getElem hn)]
      rfl
  rw [all _ (Nat.le_refl _), List.take_length]
/-- laying the table anew -/
theorem relayQ {o : Obj} (ho : s.heap.get? a = some o) (hex : o.ExactSet) (hd : o.data = .set es ep t) (ents : es.toList = entries w M) (T : TabOk t (hashesN w M)) (fit : M.length ≤ t.mask)
    (uni : (M.map (·.2)).Nodup) (mem : ∀ m ∈ M, NI P w s.heap m.2 m.1) (led : w.params.followText "set-order" = true ∨ t.led = true) (few : M.length < 64) {want N : Nat}
    (hw : SetTable.sizeAbove want - 1 = N) (hN : MaskOk N) (hw2 : SetTable.sizeAbove want ≤ 128) (hn : M.length * 5 < N * 3) {Q : Unit → Shared → Prop}
    (q : ∀ h' M' es' ep' t', Heap.SameBut a s.heap h' → SetN P w h' a M' es' ep' t' → M'.Perm M → Q () { s with heap := h' }) : wpAny (model P w) A (setRelay a want) Q E s := by
  have hsz := entries_size ents
  obtain ⟨t2, order, e, hp, T2, em, el, ep2, ed⟩ := relaid_ok t (hs := es.map (·.1)) (wanted := want) hw hN (by rw [Array.size_map, hsz]; omega)
  rw [Array.size_map, hsz] at hp
  obtain ⟨M2, r1, r2, r3⟩ := entries_order order ents hp
  rw [← r3] at T2
  have hs2 : (order.filterMap (es[·]?)).size = es.size := by
    rw [entries_size r1, r2.length_eq, hsz]
  rw [setRelay_eq]
  refine wpAny_bind (wpAny_setState_of ho hd (fits_of ents T fit) ?_)
  dsimp only
  refine wp_if_neg (by rw [sizeLine_eq]; omega) ?_
  try refine wpAny_bind (wpAny_pure ?_)
  rw [e]
  dsimp only
  refine wpAny_bind ?_
  refine wp_if_neg (by rw [hs2]; simp) ?_
  try refine wpAny_bind (wpAny_pure ?_)
  refine wpAny_pure ?_
  dsimp only
  refine wpAny_storeSet_of ho hd ?_ (by rw [hs2, hsz, sizeLine_eq]; omega)
  have sb : Heap.SameBut a s.heap (s.heap.update a (Obj.putSet (order.filterMap (es[·]?)) t2)) := Heap.SameBut.update ..
  refine q _ M2 _ (ep + 1) t2 sb ⟨⟨_, store_at ho hd, ⟨hex.1, hex.2.1, hex.2.2⟩, rfl⟩, r1, T2, (r2.map (·.2)).nodup_iff.mpr uni, fun m hm => ni_set (mem m (r2.mem_iff.mp hm)) ho hd sb, by rw [el]; exact led, ?_, by rw [r2.length_eq]; exact few⟩ r2
  rw [r2.length_eq, em]
  exact hn
/-- what the adding of k at x leaves -/
theorem addQ (R : SetN P w s.heap a M es ep t) {x : Addr} {k : NestedKey} (hx : NI P w s.heap k x) (hu : A.units + 8 < cLine) (few1 : M.length + 1 < 64) {Q : Bool → Shared → Prop}
    (q : ∀ b h' M' es' ep' t', Heap.SameBut a s.heap h' → SetN P w h' a M' es' ep' t' → (k ∈ M.map (·.2) → M' = M) → (k ∉ M.map (·.2) → M'.Perm ((x, k) :: M)) → Q b { s with heap := h' }) :
    wpAny (model P w) A (setAddHashed a (.ref x) (hN w k)) Q E s := by
  obtain ⟨o, ho, hex, hd⟩ := R.here
  have hsz := entries_size R.ents
  have room := R.room
  unfold setAddHashed
  refine wpAny_holding ?_
  rw [show (100000 : Nat) = 99999 + 1 from rfl, setAddHashedIn_succ]
  refine wpAny_bind (wpAny_setState_of ho hd R.fits ?_)
  dsimp only
  refine wp_if_neg (by simp [byScan, Value.scannable]) ?_
  try refine wpAny_bind (wpAny_pure ?_)
  refine wpAny_bind (searchQ R hx hu (fun hm => ?_) fun K hm hK hb => ?_)
  · dsimp only
    exact wpAny_pure (q false s.heap M es ep t (Heap.SameBut.refl a s.heap) R (fun _ => rfl) fun z => absurd hm z)
  dsimp only
  refine wpAny_bind (wpAny_setState_of ho hd R.fits ?_)
  dsimp only
  obtain ⟨q1, q2, q3, q4, q5, q6, q7, q8, q9⟩ := R.tab.put hK hb
  generalize t.put (way t.mask (hN w k) K) = pt at q1 q3 q4 q5 q6 q7 q8 q9 ⊢
  obtain ⟨t1, p⟩ := pt
  dsimp only at q1 q3 q4 q5 q6 q7 q8 q9 ⊢
  subst q1
  have hin : (SetTable.insertAt es (SetTable.below t.place (way t.mask (hN w k) K)) (hN w k, Value.ref x)).toList = entries w (M.take (SetTable.below t.place (way t.mask (hN w k) K)) ++ (x, k) :: M.drop (SetTable.below t.place (way t.mask (hN w k) K))) := by
    rw [SetTable.toList_insertAt, R.ents]
    unfold entries
    rw [List.map_append, List.map_cons, List.map_take, List.map_drop]
  generalize SetTable.below t.place (way t.mask (hN w k) K) = p at q2 q3 hin ⊢
  have pm := put_perm M p (x, k)
  have hhs : hashesN w (M.take p ++ (x, k) :: M.drop p) = (hashesN w M).take p ++ hN w k :: (hashesN w M).drop p := by
    show (M.take p ++ (x, k) :: M.drop p).map _ = _
    rw [List.map_append, List.map_cons, List.map_take, List.map_drop]
  rw [← hhs] at q3
  generalize M.take p ++ (x, k) :: M.drop p = M1 at pm q3 hin
  have hlen : M1.length = M.length + 1 := pm.length_eq
  have uni1 : (M1.map (·.2)).Nodup := (pm.map (·.2)).nodup_iff.mpr (List.nodup_cons.mpr ⟨hm, R.uni⟩)
  generalize SetTable.insertAt es p (hN w k, Value.ref x) = es1 at hin ⊢
  have hes := entries_size hin
  have lq : (hashesN w M).length = M.length := List.length_map ..
  have after : ∀ t3 : SetTable, TabOk t3 (hashesN w M1) → t3.mask = t.mask → t3.led = t.led → t3.fill = M.length + 1 →
      wpAny (model P w) A (storeSet a es1 t3 >>= fun _ => if (!false && t3.tooFull) = true then (setRelay a (SetTable.grown (es.size + 1)) >>= fun _ => pure true) else pure true) Q E s := by
    intro t3 T3 m3 l3 f3
    refine wpAny_bind (wpAny_storeSet_of ho hd ?_ (by rw [hes, hlen, sizeLine_eq]; omega))
    have sb : Heap.SameBut a s.heap (s.heap.update a (Obj.putSet es1 t3)) := Heap.SameBut.update ..
    have ho1 := store_at (es' := es1) (t' := t3) ho hd
    generalize s.heap.update a (Obj.putSet es1 t3) = h1 at sb ho1 ⊢
    have mem1 : ∀ m ∈ M1, NI P w h1 m.2 m.1 := fun m h => by
      rcases List.mem_cons.mp (pm.mem_iff.mp h) with e | h
      · rw [e]
        exact ni_set hx ho hd sb
      · exact ni_set (R.mem m h) ho hd sb
    have led1 : w.params.followText "set-order" = true ∨ t3.led = true := by rw [l3]; exact R.led
    by_cases hf : t3.tooFull = true
    · first
        | (refine wpAny_bind ?_; refine wp_if_pos (by simp [hf]) ?_)
        | (refine wp_if_pos (by simp [hf]) ?_; refine wpAny_bind ?_)
      have full : (M.length + 1) * 5 ≥ t3.mask * 3 := by
        have z := hf
        unfold SetTable.tooFull at z
        rwa [decide_eq_true_eq, f3] at z
      have two : (t.mask = 7 ∧ M.length = 4) ∨ (t.mask = 31 ∧ M.length = 18) := by
        rcases R.tab.mok with e | e | e
        · left; rw [m3, e] at full; rw [e] at room; exact ⟨e, by omega⟩
        · right; rw [m3, e] at full; rw [e] at room; exact ⟨e, by omega⟩
        · exfalso; rw [m3, e] at full; omega
      have go : ∀ N, SetTable.sizeAbove (SetTable.grown (es.size + 1)) - 1 = N → MaskOk N → SetTable.sizeAbove (SetTable.grown (es.size + 1)) ≤ 128 → (M.length + 1) * 5 < N * 3 →
          wpAny (model P w) A (setRelay a (SetTable.grown (es.size + 1))) (fun _ z => wpAny (model P w) A (pure true) Q E z) E { s with heap := h1 } := fun N g1 g2 g3 g4 => by
        refine relayQ (s := { s with heap := h1 }) ho1 ⟨hex.1, hex.2.1, hex.2.2⟩ rfl hin T3 (by rw [hlen, m3]; rcases two with ⟨e, e2⟩ | ⟨e, e2⟩ <;> omega) uni1 mem1 led1 (by rw [hlen]; exact few1) g1 g2 g3 (by rw [hlen]; exact g4) ?_
        intro h2 M2 es2 ep2 t2 sb2 R2 pm2
        exact wpAny_pure (q true h2 M2 es2 ep2 t2 (sb.trans sb2) R2 (fun z => absurd z hm) fun _ => pm2.trans pm)
      rcases two with ⟨_, e2⟩ | ⟨_, e2⟩
      · exact go 31 (by rw [hsz, e2, size_20]) (.inr (.inl rfl)) (by rw [hsz, e2, size_20]; decide) (by omega)
      · exact go 127 (by rw [hsz, e2, size_76]) (.inr (.inr rfl)) (by rw [hsz, e2, size_76]; decide) (by omega)
    · first
        | refine wp_if_neg (by simp [hf]) ?_
        | (refine wpAny_bind ?_; refine wp_if_neg (by simp [hf]) ?_; refine wpAny_pure ?_)
      refine wpAny_pure (q true h1 M1 es1 (ep + 1) t3 sb ⟨⟨_, ho1, ⟨hex.1, hex.2.1, hex.2.2⟩, rfl⟩, hin, T3, uni1, mem1, led1, ?_, by rw [hlen]; exact few1⟩ (fun z => absurd z hm) fun _ => pm)
      have z := hf
      unfold SetTable.tooFull at z
      rw [decide_eq_true_eq, f3] at z
      rw [hlen]
      omega
  by_cases hp : t1.plain = true
  · refine wp_if_pos hp (wpAny_bind (hbvQ 8 k _ s _ hx.1 fun r => ?_))
    cases r
    · exact after { t1 with plain := false } ⟨q3.ris, q3.dm, q3.sz, q3.mok, q3.bd, q3.reach⟩ q4 q5 (q9.trans (by rw [lq]))
    · exact after t1 q3 q4 q5 (q9.trans (by rw [lq]))
  · refine wp_if_neg hp (wpAny_bind (wpAny_pure ?_))
    exact after t1 q3 q4 q5 (q9.trans (by rw [lq]))
theorem freshQ {h : Heap} {a : Addr} (ho : h.get? a = some { cls := .type "set", dict := none, data := .set #[] 0 (.fresh 0 0 (!w.params.followText "set-order")) }) : SetN P w h a [] #[] 0 (.fresh 0 0 (!w.params.followText "set-order")) where
  here := ⟨_, ho, ⟨rfl, rfl, rfl⟩, rfl⟩
  ents := rfl
  tab := ⟨List.Pairwise.nil, rfl, rfl, .inl rfl, (by intro x hx; cases hx), (by intro i h j hi; simp at hi)⟩
  uni := List.nodup_nil
  mem := by intro m hm; cases hm
  led := by
    show _ ∨ (!w.params.followText "set-order") = true
    cases w.params.followText "set-order"
    · exact .inr rfl
    · exact .inl rfl
  room := by show 0 * 5 < 7 * 3; decide
  few := by show 0 < 64; decide
end NS

/-! DLW: set(xs) of a list, for any kind of members of which the adding is known. -/
namespace NS
open PySem PySem.Spec PyProof.Rows L2
abbrev newSet (w : World) : Obj := { cls := .type "set", dict := none, data := .set #[] 0 (.fresh 0 0 (!w.params.followText "set-order")) }
/-- a kind of members: what a member is in a heap, what it is for a set to hold some, how one more is taken in -/
structure SetKd (P : Program) (w : World) where
  μ : Type
  κ : Type
  key : μ → κ
  val : μ → Value
  Is : Heap → μ → Prop
  At : Heap → Addr → List μ → Prop
  keepI : ∀ {h h' : Heap} {m : μ}, Is h m → (∀ c o, h.get? c = some o → h'.get? c = some o) → Is h' m
  keepA : ∀ {h h' : Heap} {a : Addr} {M : List μ}, At h a M → (∀ o, h.get? a = some o → h'.get? a = some o) → (∀ m ∈ M, Is h' m) → At h' a M
  fresh : ∀ {h : Heap} {a : Addr}, h.get? a = some (newSet w) → At h a []
  add : ∀ {A : Around} {E : Value → Shared → Prop} {s : Shared} {a : Addr} {M : List μ} {m : μ} {Q : Bool → Shared → Prop}, At s.heap a M → Is s.heap m → A.units + 8 < cLine → M.length + 1 < 64 →
    (∀ b h' tk M', s.toks ≤ tk → Heap.SameBut a s.heap h' → At h' a M' → (key m ∈ M.map key → M' = M) → (key m ∉ M.map key → M'.Perm (m :: M)) → Q b { s with heap := h', toks := tk }) → wpAny (model P w) A (setAdd a (val m)) Q E s
variable {P : Program} {w : World} {A : Around} {E : Value → Shared → Prop} {s : Shared} {kd : SetKd P w}
/-- the set has the keys of the first i items -/
structure Has (kd : SetKd P w) (ks : List kd.μ) (i : Nat) (M : List kd.μ) : Prop where
  sub : ∀ m ∈ M, m ∈ ks.take i
  all : ∀ m ∈ ks.take i, kd.key m ∈ M.map kd.key
  len : M.length ≤ i
theorem Has.next {ks M M' : List kd.μ} {i : Nat} {x : kd.μ} (g : Has kd ks i M) (h : ks[i]? = some x) (c1 : kd.key x ∈ M.map kd.key → M' = M) (c2 : kd.key x ∉ M.map kd.key → M'.Perm (x :: M)) : Has kd ks (i + 1) M' := by
  have et : ks.take (i + 1) = ks.take i ++ [x] := take_next h
  rcases Classical.em (kd.key x ∈ M.map kd.key) with c | c
  · rw [c1 c]
    refine ⟨fun m hm => by rw [et]; exact List.mem_append_left _ (g.sub m hm), fun m hm => ?_, Nat.le_succ_of_le g.len⟩
    rw [et] at hm
    rcases List.mem_append.mp hm with hm | hm
    · exact g.all m hm
    · rw [List.mem_singleton.mp hm]
      exact c
  · have pm := c2 c
    refine ⟨fun m hm => ?_, fun m hm => ?_, by rw [pm.length_eq]; exact Nat.succ_le_succ g.len⟩
    · rw [et]
      rcases List.mem_cons.mp (pm.mem_iff.mp hm) with e | hm
      · rw [e]
        exact List.mem_append_right _ (List.mem_singleton.mpr rfl)
      · exact List.mem_append_left _ (g.sub m hm)
    · rw [et] at hm
      refine (pm.map kd.key).mem_iff.mpr ?_
      rcases List.mem_append.mp hm with hm | hm
      · exact List.mem_cons_of_mem _ (g.all m hm)
      · rw [List.mem_singleton.mp hm]
        exact List.mem_cons_self
/-- the loop that takes the items in -/
theorem takeIn {I : Addr} {fp wr : List Addr} {G : Array GenState → Array GenState → Prop} {n : Nat} {Pv : Nat → Value → Prop} {St : Nat → Shared → Prop} {R : Result → Shared → Prop}
    (W : WalksS P w A.in1 I fp wr G n Pv St) (S : Addr) (hSf : S ∉ fp) (kd : SetKd P w) (ks : List kd.μ) (hn : n = ks.length) (few : ks.length < 64) (val : ∀ i v, Pv i v → ∃ m, ks[i]? = some m ∧ v = kd.val m)
    (h0 : Heap) (hk : ∀ m ∈ ks, kd.Is h0 m) (hS0 : h0.get? S = none) (hw0 : ∀ b ∈ wr, h0.get? b = none) (hu : A.in1.units + 8 < cLine) :
    ∀ (k i : Nat) (s : Shared), n - i = k → i ≤ n → St i s → (∀ b o, h0.get? b = some o → s.heap.get? b = some o) → (∃ M, kd.At s.heap S M ∧ Has kd ks i M) →
      (∀ s' M, Moved (S :: wr) G s s' → kd.At s'.heap S M → Has kd ks n M → (∀ b o, h0.get? b = some o → s'.heap.get? b = some o) → R (.ok (.ret .none)) s') →
      codeAny (model P w) A (.builtin "set.update.loop" ⟨[.ref S, .ref I], []⟩) R s := by
  have nS : S ∉ wr := fun h => hSf (W.sub _ h)
  have widen : ∀ b ∈ wr, b ∈ S :: wr := fun b hb => List.mem_cons_of_mem _ hb
  have stays : ∀ {s s' : Shared}, Moved wr G s s' → (∀ b o, h0.get? b = some o → s.heap.get? b = some o) → ∀ b o, h0.get? b = some o → s'.heap.get? b = some o := fun hm hkp b o e =>
    hm.heap b o (fun hb => by rw [hw0 b hb] at e; cases e) (hkp b o e)
  intro k
  induction k with
  | zero =>
    intro i s hk' hi hst hkp ⟨M, hS, g⟩ hR
    have e : i = n := by omega
    subst e
    refine codeAny_builtin F.entry_set_update_loop ?_
    rw [Around.under_plainId F.plain_set_update_loop _]
    show wpAny _ A.in1 (pyNext (.ref I) >>= _) _ _ s
    refine wpAny_bind (W.done s _ _ hst fun s' hm => ?_)
    show wpAny _ A.in1 (ret Value.none) _ _ s'
    have hkp' := stays hm hkp
    exact wpAny_pure (hR s' M (hm.mono widen) (kd.keepA hS (fun o e => hm.heap S o nS e) fun m hm2 => kd.keepI (hk m (List.mem_of_mem_take (g.sub m hm2))) hkp') g hkp')
  | succ k ih =>
    intro i s hk' hi hst hkp ⟨M, hS, g⟩ hR
    have hlt : i < n := by omega
    refine codeAny_builtin F.entry_set_update_loop ?_
    rw [Around.under_plainId F.plain_set_update_loop _]
    show wpAny _ A.in1 (pyNext (.ref I) >>= _) _ _ s
    refine wpAny_bind (W.item i s _ _ hlt hst fun v s' hP hst' hm => ?_)
    obtain ⟨x, hx, rfl⟩ := val i v hP
    have hkp' := stays hm hkp
    have hS' : kd.At s'.heap S M := kd.keepA hS (fun o e => hm.heap S o nS e) fun m hm2 => kd.keepI (hk m (List.mem_of_mem_take (g.sub m hm2))) hkp'
    have hx' : kd.Is s'.heap x := kd.keepI (hk x (List.mem_of_getElem? hx)) hkp'
    show wpAny _ A.in1 (holding [kd.val x] (setAdd S (kd.val x)) >>= _) _ _ s'
    refine wpAny_bind (wpAny_holding (kd.add hS' hx' hu (by have := g.len; omega) fun b h' tk M' htk sb hS2 c1 c2 => ?_))
    have g' := g.next hx c1 c2
    have hkp2 : ∀ b o, h0.get? b = some o → h'.get? b = some o := fun b o e => (sb.2 b (fun z => by rw [z, hS0] at e; cases e)).trans (hkp' b o e)
    refine wpAny_pure ⟨plainId_quiet F.plain_set_update_loop _, ih (i + 1) _ (by omega) hlt (W.frame _ s' _ _ hst' htk fun b hb o e => ?_) hkp2 ⟨M', hS2, g'⟩ fun s'' M2 hm'' hS'' g'' hkp'' => ?_⟩
    · rw [sb.2 b (fun h : b = S => hSf (by rw [← h]; exact hb))]
      exact e
    · refine hR s'' M2 (Moved.trans W.gtrans ((hm.mono widen).then_heap htk fun b o hb e => ?_) hm'') hS'' g'' hkp''
      rw [sb.2 b (fun h : b = S => hb (by rw [h]; exact List.mem_cons_self))]
      exact e

theorem setCall {l : Addr} {its : Array Value} (kd : SetKd P w) (ks : List kd.μ) {Q : Value → Shared → Prop} (hh : A.handled = none) (hl : s.heap.IsList l its) (hit : its.toList = ks.map kd.val)
    (hk : ∀ m ∈ ks, kd.Is s.heap m) (few : ks.length < 64) (hu : A.units + 16 < cLine)
    (q : ∀ (h' : Heap) (tk : Nat) M, kd.At h' s.heap.objs.size M → Has kd ks ks.length M → (∀ b o, s.heap.get? b = some o → h'.get? b = some o) → Q (.ref s.heap.objs.size) { s with heap := h', toks := tk }) :
    wpAny (model P w) A (call (.type "set") [.ref l]) Q E s := by
  have hn : its.size = ks.length := by
    have z := congrArg List.length hit
    rwa [Array.length_toList, List.length_map] at z
  obtain ⟨c, tl, hmro⟩ := F.called_set.mro
  have hmade := F.called_set.made
  have hsub := F.called_set.sub
  refine wpAny_call (codeAny_of_tree ?_)
  show wpAny _ _ (callAny (.type "set") _) _ _ _
  refine wpAny_pure ⟨Code.quiet_builtin _ (by decide +kernel), codeAny_builtin F.entry_type_call ?_⟩
  rw [Around.under_plain (weight_type_call_type "set" [.ref l] []) rfl]
  have h1 := F.called_set.notType
  have h2 := F.called_set.canCreate
  have hct := F.typeCall_set_1 (.ref l)
  repeat (any_goals (first | assumption | wp_step))
  refine codeAny_mono (code_set_led1 (.ref l) (E := E) (Q₁ := fun ob z => ob = .ref s.heap.objs.size ∧ z = { s with heap := s.heap.push (newSet w) }) ⟨rfl, rfl⟩) fun r z hr => ?_
  cases r with
  | error e => exact hr
  | ok fl =>
    cases fl with
    | ret ob =>
      obtain ⟨rfl, rfl⟩ := hr
      have hS : (s.heap.push (newSet w)).get? s.heap.objs.size = some (newSet w) := Heap.get?_push_size _ rfl
      have hT : Shared.TypeIs { s with heap := s.heap.push (newSet w) } (.ref s.heap.objs.size) "set" := ⟨_, hS, rfl⟩
      have hli := F.called_set.init.lookup
      have hbi := F.called_set.init.bind (.ref s.heap.objs.size)
      repeat (any_goals (first | assumption | wp_step))
      refine codeAny_mono (codeAny_call_builtin (R := wants (fun r y => r = .none ∧ ∃ h' tk M, y = { s with heap := h', toks := tk } ∧ kd.At h' s.heap.objs.size M ∧ Has kd ks ks.length M ∧ (∀ b o, s.heap.get? b = some o → h'.get? b = some o)) E)
        F.called_set.init.plain F.entry_set_init (check_set_init_1 hT ?_)) fun r2 y hr2 => ?_
      · obtain ⟨ol, hol, hcl, nl, hdl⟩ := hl
        obtain ⟨ocls, odict, odata, oslots⟩ := ol
        simp only at hcl hdl
        subst hcl; subst hdl
        have hol2 : (s.heap.push (newSet w)).get? l = some { cls := .type "list", dict := odict, data := .seq its nl, slots := oslots } := Heap.get?_push_of_some _ hol
        have b1 := F.sub_list_set
        have b2 := F.sub_list_frozenset
        have b3 : (Value.type "list" == Value.type "dict") = false := by decide
        have hl1 : (s.heap.push (newSet w)).IsList l its := ⟨_, hol2, rfl, nl, rfl⟩
        unfold Builtin.«set.__init__» noKeywords Builtin.Frozenset.updateFrom
        generalize hPI : pyIter = PI
        wp_walk
        subst hPI
        refine wpAny_pyIter_list hl1 (wpAny_bind (wpAny_runValue ?_))
        have hlS : l < s.heap.objs.size := Heap.lt_size hol
        have hh3 : A.in1.in1.in1.handled = none := by simp [hh]
        have sz1 : (s.heap.push (newSet w)).objs.size = s.heap.objs.size + 1 := Heap.size_push ..
        have hneI : l ≠ (s.heap.push (newSet w)).objs.size := by rw [sz1]; exact Nat.ne_of_lt (Nat.lt_succ_of_lt hlS)
        have hSf : s.heap.objs.size ∉ [(s.heap.push (newSet w)).objs.size, l] := by
          rw [sz1]
          simp only [List.mem_cons, List.not_mem_nil, or_false, not_or]
          exact ⟨Nat.ne_of_lt (Nat.lt_succ_self _), Nat.ne_of_gt hlS⟩
        have val : ∀ (i : Nat) (v : Value), its[i]? = some v → ∃ m, ks[i]? = some m ∧ v = kd.val m := fun i v hv => by
          have z : its.toList[i]? = some v := by rw [Array.getElem?_toList]; exact hv
          rw [hit, List.getElem?_map] at z
          cases hq : ks[i]? with
          | none => rw [hq] at z; cases z
          | some m =>
            rw [hq] at z
            exact ⟨m, rfl, (Option.some.inj z).symm⟩
        have free : ∀ b, s.heap.objs.size ≤ b → s.heap.get? b = none := fun b hb => by
          cases z : s.heap.get? b with
          | none => rfl
          | some o => exact absurd (Heap.lt_size z) (Nat.not_lt.mpr hb)
        refine takeIn ((Walks.list hh3 _ l hneI its).toS) s.heap.objs.size hSf kd ks hn few val s.heap hk (free _ (Nat.le_refl _)) (fun b hb => free b (by rw [List.mem_singleton.mp hb, sz1]; exact Nat.le_succ _)) (by simp only [Around.in1_units]; omega)
          (its.size - 0) 0 _ (by omega) (Nat.zero_le _) ⟨⟨_, Heap.get?_push_size _ rfl, rfl, rfl⟩, (hl1.push _)⟩ (fun b o e => Heap.get?_push_of_some _ (Heap.get?_push_of_some _ e)) ?first ?last
        case first => exact ⟨[], kd.fresh (Heap.get?_push_of_some _ hS), ⟨fun m h => (by cases h), fun m h => (by simp at h), Nat.le_refl _⟩⟩
        case last =>
          intro s' M hm hS' g' hkp
          obtain ⟨h', g2, d', tk', os'⟩ := s'
          obtain rfl : g2 = s.gens := hm.gens
          obtain rfl : d' = s.drawn := hm.drawn
          obtain rfl : os' = s.os := hm.os
          show wpAny _ _ _ _ _ _
          refine wpAny_pure ?_
          show wpAny _ _ (ret Value.none) _ _ _
          rw [hn] at g'
          exact wpAny_pure ⟨rfl, h', tk', M, rfl, hS', g', hkp⟩
      · cases r2 with
        | error e => exact hr2
        | ok fl2 =>
          cases fl2 with
          | ret r =>
            obtain ⟨rfl, h', tk, M, rfl, hS', g', hk'⟩ := hr2
            repeat (any_goals (first | assumption | wp_step))
            exact q _ _ _ hS' g' hk'
          | _ => exact hr2.elim
    | _ => exact hr.elim
end NS

/-! DLy: sorted(set(xs)) by value. -/
namespace DL
open PySem PySem.Spec PyProof.Rows L2
mutual
theorem hk_pure : ∀ w : W, w.hk = true → w.pure = true
  | .non, _ => rfl
  | .bl _, _ => rfl
  | .int _, _ => rfl
  | .str _, _ => rfl
  | .tup ws, h => hkL_pure ws h
  | .lit _, h => by cases h
  | .ref _, h => by cases h
  | .raw _, h => by cases h
theorem hkL_pure : ∀ ws : List W, W.hkL ws = true → W.pureL ws = true
  | [], _ => rfl
  | w :: ws, h => by
    have b : (w.hk && W.hkL ws) = true := h
    rw [Bool.and_eq_true] at b
    show (w.pure && W.pureL ws) = true
    rw [hk_pure w b.1, hkL_pure ws b.2]
    rfl
end
mutual
theorem nis_of {h : Heap} : ∀ (w : W) (v : Value) (as : List Addr), w.hk = true → Reads h v (datW w) as → NestedIs h (nkW w) v ∧ as = []
  | .non, _, _, _, r => by cases r; exact ⟨.none, rfl⟩
  | .bl b, _, _, _, r => by cases r; exact ⟨.bool rfl, rfl⟩
  | .int i, _, _, _, r => by cases r; exact ⟨.int _ _, rfl⟩
  | .str x, _, _, _, r => by cases r; exact ⟨.text _ _, rfl⟩
  | .tup ws, _, _, h, r => by
    cases r with
    | tuple h1 h2 h3 h4 =>
      obtain ⟨a, b⟩ := nisL_of ws _ _ h h4
      exact ⟨.tup h1 h2 h3 a, b⟩
  | .lit _, _, _, h, _ => by cases h
  | .ref _, _, _, h, _ => by cases h
  | .raw _, _, _, h, _ => by cases h
theorem nisL_of {h : Heap} : ∀ (ws : List W) (vs : List Value) (as : List Addr), W.hkL ws = true → ReadsAll h vs (datWs ws) as → NestedAll h (nkWs ws) vs ∧ as = []
  | [], _, _, _, r => by cases r; exact ⟨.nil, rfl⟩
  | w :: ws, _, _, h, r => by
    have b : (w.hk && W.hkL ws) = true := h
    rw [Bool.and_eq_true] at b
    cases r with
    | cons r1 r2 =>
      obtain ⟨a1, b1⟩ := nis_of w _ _ b.1 r1
      obtain ⟨a2, b2⟩ := nisL_of ws _ _ b.2 r2
      subst b1 b2
      exact ⟨.cons a1 a2, rfl⟩
end
theorem perm_pre {α β : Type} {f : α → β} : ∀ {l1 l2 : List β}, l1.Perm l2 → ∀ xs : List α, l2 = xs.map f → ∃ ys : List α, ys.Perm xs ∧ l1 = ys.map f := by
  intro l1 l2 h
  induction h with
  | nil => intro xs e; exact ⟨[], by rw [List.map_eq_nil_iff.mp e.symm], rfl⟩
  | cons x h ih =>
    intro xs e
    obtain ⟨a, r, rfl, rfl, e2⟩ := List.map_eq_cons_iff.mp e.symm
    obtain ⟨ys, p, rfl⟩ := ih r e2.symm
    exact ⟨a :: ys, p.cons a, rfl⟩
  | swap x y l =>
    intro xs e
    obtain ⟨a, r, rfl, rfl, e2⟩ := List.map_eq_cons_iff.mp e.symm
    obtain ⟨b, r2, rfl, rfl, e3⟩ := List.map_eq_cons_iff.mp e2
    exact ⟨b :: a :: r2, .swap .., by rw [List.map_cons, List.map_cons, e3]⟩
  | trans _ _ i1 i2 =>
    intro xs e
    obtain ⟨ys, p, e1⟩ := i2 xs e
    obtain ⟨zs, p2, e2⟩ := i1 ys e1
    exact ⟨zs, p2.trans p, e2⟩
theorem pick_pre {α β : Type} {f : α → β} : ∀ (M : List β) (bs : List α), (∀ m ∈ M, m ∈ bs.map f) → ∃ cs : List α, M = cs.map f ∧ ∀ c ∈ cs, c ∈ bs
  | [], _, _ => ⟨[], rfl, fun c h => by cases h⟩
  | m :: M, bs, h => by
    obtain ⟨c, hc, e⟩ := List.mem_map.mp (h m List.mem_cons_self)
    obtain ⟨cs, e2, hs⟩ := pick_pre M bs fun x hx => h x (List.mem_cons_of_mem _ hx)
    refine ⟨c :: cs, by rw [List.map_cons, e, e2], fun d hd => ?_⟩
    rcases List.mem_cons.mp hd with e | hd
    · rw [e]
      exact hc
    · exact hs d hd
def adr : V → Addr
  | .ref p => p
  | _ => 0
/-- a member, as it stands in the heap -/
abbrev memV (c : V × W) : NS.Mem := (adr c.1, nkW c.2)
structure SetN0 (P : Program) (w : World) (h : Heap) (a : Addr) (M : List NS.Mem) : Prop where
  ex : ∃ (es : Array (Int × Value)) (ep : Nat) (t : SetTable), (∃ o, h.get? a = some o ∧ o.ExactSet ∧ o.data = .set es ep t) ∧ es.toList = NS.entries w M ∧ TabOk t (NS.hashesN w M) ∧ (M.map (·.2)).Nodup ∧
    (w.params.followText "set-order" = true ∨ t.led = true) ∧ M.length * 5 < t.mask * 3 ∧ M.length < 64
def SetNO (P : Program) (w : World) (a : Addr) (M : List NS.Mem) : HO := .ext fun h => SetN0 P w h a M
theorem setNO_ok {P : Program} {w : World} {H : Hp} {h : Heap} {a : Addr} {M : List NS.Mem} {es : Array (Int × Value)} {ep : Nat} {t : SetTable} (R : NS.SetN P w h a M es ep t) : ObjOk P w H h a (SetNO P w a M) := by
  obtain ⟨o, ho, r⟩ := R.here
  refine ⟨⟨es, ep, t, ⟨o, ho, r⟩, R.ents, R.tab, R.uni, R.led, R.room, R.few⟩, ⟨o, ho⟩, fun h1 h2 x k => ?_⟩
  obtain ⟨es', ep', t', ⟨o', ho', r'⟩, q'⟩ := SetN0.ex x
  exact ⟨es', ep', t', ⟨o', k o' ho', r'⟩, q'⟩
/-- tuples as members -/
abbrev nestKd (P : Program) (w : World) : NS.SetKd P w where
  μ := NS.Mem
  κ := NestedKey
  key := (·.2)
  val m := .ref m.1
  Is h m := NS.NI P w h m.2 m.1
  At h a M := ∃ es ep t, NS.SetN P w h a M es ep t
  keepI := NS.ni_keep
  keepA := fun ⟨es, ep, t, R⟩ k hm => ⟨es, ep, t, R.keep k hm⟩
  fresh := fun ho => ⟨#[], 0, _, NS.freshQ ho⟩
  add := fun {A E s a M m Q} ⟨es, ep, t, R⟩ hm hu few q => by
    unfold setAdd
    refine wpAny_holding (wpAny_bind ((nestedKind P w).pyHash hu hm ?_))
    exact NS.addQ (s := { s with toks := s.toks + (nestedKind P w).draws m.2 }) R hm hu few fun b h' M' es' ep' t' sb R' c1 c2 => q b h' _ M' (Nat.le_add_right _ _) sb ⟨es', ep', t', R'⟩ c1 c2
/-- an item of which a set may be made -/
structure Hk (K : Fg) (H : Hp) (b : V × W) : Prop where
  rf : ∃ p, b.1 = .ref p
  dp : Dp K H b.1 (datW b.2)
  hk : b.2.hk = true
  dep : (nkW b.2).depth ≤ 8
section
variable {X : Cx} {pins : List (Addr × Obj)} {σ : L2.St} {H : Hp} {s : Shared}
theorem Hk.ni {b : V × W} (x : Hk X.K H b) (I : Inv X pins σ H s) : NS.NI X.prog X.w s.heap (nkW b.2) (adr b.1) := by
  obtain ⟨p, e⟩ := x.rf
  have d := x.dp
  rw [e] at d
  obtain ⟨as, r⟩ := Dp.reads I _ _ (.ref p) d rfl
  rw [e]
  exact ⟨(nis_of b.2 _ as x.hk r).1, x.dep⟩
def rSetN (K : Fg) (P : Program) (w : World) : List V → Hp → VK → Prop := fun xs H Q => ∃ (l : Addr) (bs : List (V × W)), xs = [.ref l] ∧ SqL K H l (bs.map (·.1)) ∧ (∀ b ∈ bs, Hk K H b) ∧ bs.length < 64 ∧
  ∀ (a : Addr) (cs : List (V × W)), H a = none → (∀ c ∈ cs, c ∈ bs) → (∀ b ∈ bs, nkW b.2 ∈ cs.map fun c => nkW c.2) → (cs.map fun c => nkW c.2).Nodup → cs.length < 64 → Q (.ref a) (upd H a (SetNO P w a (cs.map memV)))
theorem refs_vals : ∀ {bs : List (V × W)} {us : List Value}, (∀ b ∈ bs, ∃ p, b.1 = .ref p) → Vals (bs.map (·.1)) us → us = (bs.map memV).map fun m => Value.ref m.1
  | [], _, _, .nil => rfl
  | b :: bs, u :: us, h, .cons r t => by
    obtain ⟨p, e⟩ := h b List.mem_cons_self
    have r2 : RelV b.1 u := r
    rw [e] at r2
    cases r2
    rw [List.map_cons, List.map_cons, ← refs_vals (fun c hc => h c (List.mem_cons_of_mem _ hc)) t]
    show _ = Value.ref (adr b.1) :: us
    rw [e]
    rfl
theorem cr_setN (hc : X.calm = true) (hu : X.A.units + 64 < cLine) : CallR X (.type "set") (rSetN X.K X.prog X.w) := by
  intro pins s σ H xs us Q I r h
  obtain ⟨l, bs, rfl, hl, hb, few, q⟩ := h
  rw [Vals.ref1 r]
  obtain ⟨its, rv, pl, hz⟩ := I.list hl
  have hn : H s.heap.objs.size = none := I.hok.fresh (Nat.le_refl _)
  have hit : its.toArray.toList = (bs.map memV).map fun m => Value.ref m.1 := by simpa using refs_vals (fun b h => (hb b h).rf) rv
  have lb : (bs.map memV).length = bs.length := List.length_map ..
  have hni : ∀ m ∈ bs.map memV, NS.NI X.prog X.w s.heap m.2 m.1 := fun m hm => by
    obtain ⟨b, hbm, rfl⟩ := List.mem_map.mp hm
    exact (hb b hbm).ni I
  generalize hks : bs.map memV = ks at hit lb hni
  refine NS.setCall (nestKd X.prog X.w) ks (I.ok.hd hc) pl.isList hit hni (by omega) (by omega) fun h' tk M ⟨es, ep, t, R⟩ g k => ?_
  have sub : ∀ m ∈ M, m ∈ bs.map memV := fun m hm => by
    rw [hks]
    exact List.mem_of_mem_take (g.sub m hm)
  obtain ⟨cs, rfl, hcs⟩ := pick_pre M bs sub
  refine ⟨.ref s.heap.objs.size, upd H s.heap.objs.size (SetNO X.prog X.w s.heap.objs.size (cs.map memV)), I.laid (t' := tk) k (Nat.le_refl _) (setNO_ok R), rfl, q _ cs hn hcs (fun b hbm => ?_) ?_ (by have z := R.few; rwa [List.length_map] at z)⟩
  · have z := g.all (memV b) (by rw [List.take_of_length_le (Nat.le_refl _), ← hks]; exact List.mem_map.mpr ⟨b, hbm, rfl⟩)
    have z2 : (memV b).2 ∈ (cs.map memV).map (·.2) := z
    rw [List.map_map] at z2
    exact z2
  · have z := R.uni
    rw [List.map_map] at z
    exact z
def rSortN (K : Fg) (P : Program) (w : World) : List V → Hp → VK → Prop := fun xs H Q => ∃ (a : Addr) (cs : List (V × W)), xs = [.ref a] ∧ H a = some (SetNO P w a (cs.map memV)) ∧ (∀ c ∈ cs, Hk K H c) ∧
  PySem.W.AllAlike (cs.map fun c => datW c.2) ∧ PySem.W.Sortable (cs.map fun c => datW c.2) ∧ (∀ c ∈ cs, (datW c.2).depth ≤ 60) ∧ cs.length < 64 ∧
  ∀ (ds : List (V × W)) (p : Addr), ds.Perm cs → H p = none → Q (.ref p) (upd H p (.lst ((ds.mergeSort (PySem.W.dataLe false fun b => datW b.2)).map (·.1))))
theorem vals_refs : ∀ {cs : List (V × W)}, (∀ c ∈ cs, ∃ p, c.1 = .ref p) → PySem.W.EachIs (fun (v : Value) (b : V × W) => RelV b.1 v) (cs.map fun c => Value.ref (adr c.1)) cs
  | [], _ => .nil
  | c :: cs, h => by
    obtain ⟨p, e⟩ := h c List.mem_cons_self
    refine .cons ?_ (vals_refs fun d hd => h d (List.mem_cons_of_mem _ hd))
    show RelV c.1 (.ref (adr c.1))
    rw [e]
    rfl
theorem each_reads (I : Inv X pins σ H s) {h1 : Heap} (k : ∀ b o, s.heap.get? b = some o → h1.get? b = some o) {n : Addr} : ∀ {ds : List (V × W)}, (∀ d ∈ ds, Hk X.K H d) →
    PySem.W.EachIs (fun (v : Value) (b : V × W) => ∃ as, Reads h1 v (datW b.2) as ∧ n ∉ as) (ds.map fun c => Value.ref (adr c.1)) ds
  | [], _ => .nil
  | c :: cs, h => by
    refine .cons ?_ (each_reads I k fun d hd => h d (List.mem_cons_of_mem _ hd))
    have x := h c List.mem_cons_self
    obtain ⟨p, e⟩ := x.rf
    have d := x.dp
    rw [e] at d
    obtain ⟨as, r⟩ := Dp.reads I _ _ (.ref p) d rfl
    have z := (nis_of c.2 _ as x.hk r).2
    refine ⟨as, PyProof.Rows.Reads.keeps (fun b o q => k b o q) (by show Reads _ (Value.ref (adr c.1)) _ _; rw [e]; exact r), ?_⟩
    rw [z]
    exact List.not_mem_nil
theorem alike_perm {ds cs : List (V × W)} (h : ds.Perm cs) (al : PySem.W.AllAlike (cs.map fun c => datW c.2)) : PySem.W.AllAlike (ds.map fun c => datW c.2) := fun d hd d' hd' =>
  al d ((h.map _).mem_iff.mp hd) d' ((h.map _).mem_iff.mp hd')
theorem sortable_perm {ds cs : List (V × W)} (h : ds.Perm cs) (so : PySem.W.Sortable (cs.map fun c => datW c.2)) : PySem.W.Sortable (ds.map fun c => datW c.2) :=
  so.elim (fun x => .inl fun d hd => x d ((h.map _).mem_iff.mp hd)) fun x => .inr fun d hd => x d ((h.map _).mem_iff.mp hd)
theorem cr_sortN (hc : X.calm = true) (hu : X.A.units + 80 < cLine) : CallR X (.builtin "sorted") (rSortN X.K X.prog X.w) := by
  intro pins s σ H xs us Q I r h
  obtain ⟨a, cs, rfl, ha, hk, al, so, dp, few, q⟩ := h
  rw [Vals.ref1 r]
  obtain ⟨es, ep, t, ⟨o, ho, hex, hd⟩, ents, T, uni, led, room, _⟩ := SetN0.ex (I.hok a _ ha).1
  have hfit := NS.fits_of ents T (by omega)
  have hsz := NS.entries_size ents
  rw [List.length_map] at hsz
  refine Calls.call_function_entry kind_sorted plain_sorted entry_sorted (args_sorted1 _) ?_
  unfold Builtin.«sorted»
  refine wpAny_bind (m := checkCount "sorted" 1 1 _) (wpAny_pure ?_)
  refine wpAny_bind (collect_set (A := X.A.in1) (I.ok.hd hc) ⟨o, ho, hex.1, hd⟩ hfit (by unfold scanBound; omega) T.ris led fun s1 vs k1 hz g1 o1 pm => ?_)
  have hes : es.toList.map (·.2) = cs.map fun c => Value.ref (adr c.1) := by
    rw [ents]
    unfold NS.entries
    rw [List.map_map, List.map_map]
    rfl
  rw [hes] at pm
  obtain ⟨ds, hds, rfl⟩ := perm_pre pm cs rfl
  have hdk : ∀ d ∈ ds, Hk X.K H d := fun d hd => hk d (hds.mem_iff.mp hd)
  have hdl : ds.length < 64 := by rw [hds.length_eq]; exact few
  refine wpAny_bind (wpAny_newList ?_ (by rw [List.length_map, sizeLine_eq]; omega))
  have hoL : (s1.heap.push { cls := .type "list", data := .seq (ds.map fun c => Value.ref (adr c.1)).toArray }).get? s1.heap.objs.size = some (seqObj "list" (ds.map fun c => Value.ref (adr c.1)).toArray 0) := Heap.get?_push_size _ rfl
  have k2 : ∀ b o, s.heap.get? b = some o → (s1.heap.push { cls := .type "list", data := .seq (ds.map fun c => Value.ref (adr c.1)).toArray }).get? b = some o := fun b o e => Heap.get?_push_of_some _ (k1 b o e)
  refine wpAny_bind (wpAny_holding (PySem.W.list_sort_data (s := { s1 with heap := s1.heap.push { cls := .type "list", data := .seq (ds.map fun c => Value.ref (adr c.1)).toArray } }) hoL (vals_refs fun d h => (hdk d h).rf) (each_reads I k2 hdk) (alike_perm hds al) (sortable_perm hds so)
    (by rw [sizeLine_eq]; omega) (fun b hb => by have := dp b (hds.mem_iff.mp hb); simp only [Around.in1_units]; omega) fun out ho2 eo => ?_))
  obtain ⟨c, hg⟩ := sortedHeap_at (vs := ds.map fun c => Value.ref (adr c.1)) (out := out.toArray) hoL
  have hsz2 : s.heap.objs.size ≤ s1.heap.objs.size := hz
  have hn : H s1.heap.objs.size = none := I.hok.fresh hsz2
  have k3 : ∀ b o, s.heap.get? b = some o → (sortedHeap (s1.heap.push { cls := .type "list", data := .seq (ds.map fun c => Value.ref (adr c.1)).toArray }) s1.heap.objs.size (ds.map fun c => Value.ref (adr c.1)) out.toArray).get? b = some o := fun b o e => by
    have hlt := Heap.lt_size (k1 b o e)
    rw [sortedHeap_old (Nat.ne_of_lt hlt) (by rw [size_push']; exact Nat.lt_succ_of_lt hlt)]
    exact k2 b o e
  have J := I.call (g' := s1.gens) (d' := s1.drawn) (t' := s1.toks) (ch := []) (Un.laid k3 hsz2 hn) (I.hok.laid (o := .lst ((ds.mergeSort (PySem.W.dataLe false fun b => datW b.2)).map (·.1))) k3 hsz2
    ⟨by rw [List.length_map, List.length_mergeSort, sizeLine_eq]; omega, out, c, vals_each eo, hg⟩) (by rw [g1]; exact I.bare) (fun _ z => nomatch z)
  refine wpAny_pure ⟨_, rfl, ?_⟩
  have e : s1.os = s.os := o1
  obtain ⟨h1, gg, dd, tt, oo⟩ := s1
  obtain rfl : oo = s.os := e
  exact ⟨.ref h1.objs.size, _, J, rfl, q ds _ hds hn⟩
end
end DL

/-! DLz: sorted(set(xs)) as an expression. -/
namespace DL
open PySem PySem.Spec PyProof.Rows L2
structure SetOk (ws : List W) : Prop where
  few : ws.length < 64
  tup : ∀ w ∈ ws, ∃ us, w = .tup us
  hk : ∀ w ∈ ws, w.hk = true
  dep : ∀ w ∈ ws, (nkW w).depth ≤ 8
  al : PySem.W.AllAlike (ws.map datW)
  so : PySem.W.Sortable (ws.map datW)
  dp : ∀ w ∈ ws, (datW w).depth ≤ 60
/-- us is what a set of ws may hold, in some sequence -/
structure SetPick (ws us : List W) : Prop where
  sub : ∀ u ∈ us, u ∈ ws
  all : ∀ w ∈ ws, nkW w ∈ us.map nkW
  nd : (us.map nkW).Nodup
def vSortSet (xs : List W) (S : Sto) (Q : WK) : Prop := match xs with
  | [.ref i] => ∃ ws, S[i]? = some (.lst ws) ∧ SetOk ws ∧ ∀ us, SetPick ws us → Q (.ref S.length) (S ++ [.lst (us.mergeSort leW)])
  | _ => False
theorem SetPick.perm {ws us vs : List W} (h : SetPick ws us) (p : vs.Perm us) : SetPick ws vs :=
  ⟨fun u hu => h.sub u (p.mem_iff.mp hu), fun w hw => (p.map nkW).mem_iff.mpr (h.all w hw), (p.map nkW).nodup_iff.mpr h.nd⟩
section
variable {X : Cx} {e : Expr} {es : List Expr} {dA : DA} {pos pos2 p p2 : Pos}
theorem sortSet_sim {K : Fg} {P : Program} {w : World} {r : List Addr} {H : Hp} {S : Sto} {xs : List V} {ws : List W} {Q : WK} {Q0 : VK} (R : RelS K r H S) (l : RepL K r H xs ws) (d : vSortSet ws S Q)
    (k : ∀ r' H' S' v w, Ext K r H r' H' → RelS K r' H' S' → Rep K r' H' v w → Q w S' → Q0 v H') : rSetN K P w xs H fun v H1 => rSortN K P w [v] H1 Q0 := by
  cases l with
  | nil => exact d.elim
  | cons p l =>
    cases l with
    | cons p' l' => cases p <;> exact d.elim
    | nil =>
      cases p <;> try exact d.elim
      rename_i a i h
      obtain ⟨us, hi, ok, q⟩ := d
      obtain ⟨vs, ha, lv⟩ := R.obj i a _ h hi
      have e1 := zip_fst lv.length
      have e2 := zip_snd lv.length
      have hkb : ∀ {H2 : Hp} {r2 : List Addr}, Ext K r H r2 H2 → ∀ b ∈ vs.zip us, Hk K H2 b := fun e0 b hb => by
        have hm : b.2 ∈ us := by rw [← e2]; exact List.mem_map_of_mem hb
        have rp := (repL_zip lv b hb).mono e0
        obtain ⟨ts, et⟩ := ok.tup _ hm
        refine ⟨?_, dp_of rp (hk_pure _ (ok.hk _ hm)), ok.hk _ hm, ok.dep _ hm⟩
        rw [et] at rp
        generalize b.1 = v at rp
        cases rp with
        | tup _ _ => exact ⟨_, rfl⟩
      refine ⟨a, vs.zip us, rfl, by rw [e1]; exact .of ha, hkb .refl, by rw [List.length_zip, lv.length, Nat.min_self]; exact ok.few, fun a2 cs hn sub all nd few => ?_⟩
      have e0 : Ext K r H r (upd H a2 (SetNO P w a2 (cs.map memV))) := ext_new hn
      have hus : ∀ c ∈ cs, c.2 ∈ us := fun c hc => by
        rw [← e2]
        exact List.mem_map_of_mem (sub c hc)
      refine ⟨a2, cs, rfl, upd_same, fun c hc => hkb e0 c (sub c hc), fun d hd d' hd' => ?_, ?_, fun c hc => ok.dp _ (hus c hc), few, fun ds p hds hnp => ?_⟩
      · obtain ⟨c, hc, rfl⟩ := List.mem_map.mp hd
        obtain ⟨c', hc', rfl⟩ := List.mem_map.mp hd'
        exact ok.al _ (List.mem_map_of_mem (hus c hc)) _ (List.mem_map_of_mem (hus c' hc'))
      · exact ok.so.elim (fun x => .inl fun d hd => by
          obtain ⟨c, hc, rfl⟩ := List.mem_map.mp hd
          exact x _ (List.mem_map_of_mem (hus c hc))) fun x => .inr fun d hd => by
          obtain ⟨c, hc, rfl⟩ := List.mem_map.mp hd
          exact x _ (List.mem_map_of_mem (hus c hc))
      · have e4 : (ds.mergeSort (PySem.W.dataLe false fun b => datW b.2)).map (·.2) = (ds.map (·.2)).mergeSort leW :=
          List.map_mergeSort (r := PySem.W.dataLe false fun b : V × W => datW b.2) (s := leW) (f := fun b : V × W => b.2) (l := ds) fun x _ y _ => rfl
        have rl : RepL K r (upd H a2 (SetNO P w a2 (cs.map memV))) ((ds.mergeSort (PySem.W.dataLe false fun b => datW b.2)).map (·.1)) ((ds.map (·.2)).mergeSort leW) := by
          rw [← e4]
          exact repL_of_pairs fun b hb => (repL_zip lv b (sub b (hds.mem_iff.mp ((List.mergeSort_perm _ _).mem_iff.mp hb)))).mono e0
        have R1 := rel_new (o := SetNO P w a2 (cs.map memV)) R hn
        refine k _ _ _ _ _ (e0.trans (ext_mem hnp)) (new_lst R1 hnp rl) (rep_mem R1) (q _ ⟨fun u hu => ?_, fun x hx => ?_, ?_⟩)
        · obtain ⟨c, hc, rfl⟩ := List.mem_map.mp hu
          exact hus c (hds.mem_iff.mp hc)
        · rw [← e2] at hx
          obtain ⟨b, hb, rfl⟩ := List.mem_map.mp hx
          have z := (hds.map fun c => nkW c.2).mem_iff.mpr (all b hb)
          rw [List.map_map]
          exact z
        · have z := (hds.map fun c => nkW c.2).nodup_iff.mpr nd
          rw [List.map_map]
          exact z
theorem c_sortSet (hc : X.calm = true) (hu : X.A.units + 80 < cLine) (hg : Gl X "sorted") (hm : X.mg "sorted" = none) (hg2 : Gl X "set") (hm2 : X.mg "set" = none) (ha : XA X (e :: es) dA)
    (he : starEach (e :: es) X.env = (false, eval e X.env) :: starEach es X.env := by rfl) (hpl : (backTo pos2 (starEach es X.env)).any (·.1) = false := by rfl)
    (he2 : starEach [.Call (.Name "set" p2) (e :: es) [] pos2] X.env = (false, eval (.Call (.Name "set" p2) (e :: es) [] pos2) X.env) :: starEach [] X.env := by rfl) (hpl2 : (backTo pos (starEach [] X.env)).any (·.1) = false := by rfl) :
    XE X (.Call (.Name "sorted" p) [.Call (.Name "set" p2) (e :: es) [] pos2] [] pos) (dCB vSortSet dA) := by
  obtain ⟨ta, pa, sa⟩ := ha.ex
  have p1 := pe_callTy (p := p2) (pos := pos2) (cr_setN hc (by omega)) hg2 hm2 (by decide +kernel) pa (by decide) (by decide) he hpl
  refine ⟨_, pe_callB (p := p) (pos := pos) (cr_sortN hc hu) hg hm (by decide +kernel) (pa_cons p1 pa_nil he2) (by decide) (by decide) he2 hpl2, fun r H S s env Q Q0 R E d k => ?_⟩
  exact sa r H S s env _ _ R E d fun r1 H1 S1 vs ws e1 R1 l d1 => sortSet_sim (P := X.prog) (w := X.w) R1 l d1 fun r2 H2 S2 v w e2 => k r2 H2 S2 v w (e1.trans e2)
end
end DL


/-! DM: dicts whose keys are tuples, in the store. -/
namespace DL
open PySem PySem.Spec PyProof.Rows L2
abbrev TKey := List Key
def keyT : List W → Option TKey
  | [] => some []
  | w :: ws => match keyW w, keyT ws with
    | some k, some ks => some (k :: ks)
    | _, _ => none
theorem rep_keyT {K : Fg} {r : List Addr} {H : Hp} : ∀ {ws : List W} {vs : List V} {ks : TKey}, RepL K r H vs ws → keyT ws = some ks → vs = ks.map kV
  | [], _, _, .nil, h => by
    cases h
    rfl
  | w :: ws, _, ks, .cons p l, h => by
    have h2 : (match keyW w, keyT ws with | some k, some ks => some (k :: ks) | _, _ => none) = some ks := h
    cases e1 : keyW w with
    | none => rw [e1] at h2; cases h2
    | some k =>
      cases e2 : keyT ws with
      | none => rw [e1, e2] at h2; cases h2
      | some ks2 =>
        rw [e1, e2] at h2
        cases h2
        rw [rep_key p e1, rep_keyT l e2]
        rfl
def valT (kvs : List (TKey × W)) (k : TKey) : Option W := (kvs.find? fun kv => decide (kv.1 = k)).map (·.2)
def putT (kvs : List (TKey × W)) (k : TKey) (w : W) : List (TKey × W) :=
  if (kvs.any fun kv => decide (kv.1 = k)) = true then kvs.map (fun kv => if kv.1 = k then (kv.1, w) else kv) else kvs ++ [(k, w)]
section
variable {K : Fg} {r : List Addr} {H : Hp} {S : Sto}
def RelT (K : Fg) (r : List Addr) (H : Hp) (vs : List (TKey × V)) (ws : List (TKey × W)) : Prop := vs.map (·.1) = ws.map (·.1) ∧ RepL K r H (vs.map (·.2)) (ws.map (·.2))
theorem kt_inv {p : TKey × W} {vs : List (TKey × V)} {ws : List (TKey × W)} (l : RelT K r H vs (p :: ws)) : ∃ v vs', vs = (p.1, v) :: vs' ∧ Rep K r H v p.2 ∧ RelT K r H vs' ws := by
  obtain ⟨h1, h2⟩ := l
  cases vs with
  | nil => simp at h1
  | cons q vs =>
    rw [List.map_cons, List.map_cons] at h1
    rw [List.map_cons, List.map_cons] at h2
    cases h2 with
    | cons a b =>
      obtain ⟨k, v⟩ := q
      have e1 : k = p.1 := (List.cons.inj h1).1
      exact ⟨v, vs, by rw [← e1], a, (List.cons.inj h1).2, b⟩
theorem kt_cons {k : TKey} {v : V} {w : W} {vs : List (TKey × V)} {ws : List (TKey × W)} (h : Rep K r H v w) (l : RelT K r H vs ws) : RelT K r H ((k, v) :: vs) ((k, w) :: ws) :=
  ⟨by rw [List.map_cons, List.map_cons, l.1], .cons h l.2⟩
theorem kt_empty {vs : List (TKey × V)} (l : RelT K r H vs []) : vs = [] := by
  have h := l.1
  cases vs with
  | nil => rfl
  | cons a b => simp at h
theorem kt_len {vs : List (TKey × V)} {ws : List (TKey × W)} (l : RelT K r H vs ws) : vs.length = ws.length := by
  have h := congrArg List.length l.1
  rwa [List.length_map, List.length_map] at h
theorem kt_val {k : TKey} : ∀ {ws : List (TKey × W)} {vs : List (TKey × V)}, RelT K r H vs ws → (∀ w, valT ws k = some w → ∃ v, valV vs k = some v ∧ Rep K r H v w) ∧ (valT ws k = none → valV vs k = none)
  | [], vs, l => by
    cases kt_empty l
    exact ⟨fun w h => (by cases h), fun _ => rfl⟩
  | p :: ws, vs, l => by
    obtain ⟨v, vs', rfl, a, b⟩ := kt_inv l
    have ih := kt_val (k := k) b
    by_cases e : p.1 = k
    · have h1 : valT (p :: ws) k = some p.2 := by unfold valT; simp [e]
      have h2 : valV ((p.1, v) :: vs') k = some v := by unfold valV; simp [e]
      rw [h1, h2]
      exact ⟨fun w h => by cases h; exact ⟨v, rfl, a⟩, fun h => by cases h⟩
    · have h1 : valT (p :: ws) k = valT ws k := by unfold valT; simp [e]
      have h2 : valV ((p.1, v) :: vs') k = valV vs' k := by unfold valV; simp [e]
      rw [h1, h2]
      exact ih
theorem kt_some {k : TKey} {ws : List (TKey × W)} {vs : List (TKey × V)} (l : RelT K r H vs ws) : (valV vs k).isSome = (valT ws k).isSome := by
  obtain ⟨f, g⟩ := kt_val (k := k) l
  cases hw : valT ws k with
  | none => rw [g hw]; rfl
  | some w =>
    obtain ⟨v, hv, _⟩ := f w hw
    rw [hv]
    rfl
theorem kt_repl {k : TKey} {v : V} {w : W} (h : Rep K r H v w) : ∀ {ws : List (TKey × W)} {vs : List (TKey × V)}, RelT K r H vs ws → RelT K r H (vs.map fun kv => if kv.1 = k then (kv.1, v) else kv) (ws.map fun kv => if kv.1 = k then (kv.1, w) else kv)
  | [], vs, l => by
    cases kt_empty l
    exact ⟨rfl, .nil⟩
  | p :: ws, vs, l => by
    obtain ⟨u, vs', rfl, a, b⟩ := kt_inv l
    have ih := kt_repl (k := k) h b
    rw [List.map_cons, List.map_cons]
    by_cases e : p.1 = k
    · rw [if_pos e, if_pos e]
      exact kt_cons h ih
    · rw [if_neg e, if_neg e]
      exact kt_cons a ih
theorem kt_put {k : TKey} {v : V} {w : W} (h : Rep K r H v w) {ws : List (TKey × W)} {vs : List (TKey × V)} (l : RelT K r H vs ws) : RelT K r H (putK vs k v) (putT ws k w) := by
  unfold putK putT
  have e : (vs.any fun kv => decide (kv.1 = k)) = ws.any fun kv => decide (kv.1 = k) := by
    have e1 : (vs.any fun kv => decide (kv.1 = k)) = (vs.map (·.1)).any fun x => decide (x = k) := by rw [List.any_map]; rfl
    have e2 : (ws.any fun kv => decide (kv.1 = k)) = (ws.map (·.1)).any fun x => decide (x = k) := by rw [List.any_map]; rfl
    rw [e1, e2, l.1]
  rw [e]
  split
  · exact kt_repl h l
  · refine ⟨by rw [List.map_append, List.map_append, l.1]; rfl, ?_⟩
    rw [List.map_append, List.map_append]
    exact l.2.app (.cons h .nil)
theorem kt_mono {r' : List Addr} {H' : Hp} (e : Ext K r H r' H') {ws : List (TKey × W)} {vs : List (TKey × V)} (l : RelT K r H vs ws) : RelT K r' H' vs ws := ⟨l.1, l.2.mono e⟩
theorem wr_dt (R : RelS K r H S) {i : Nat} {p : Addr} {vs vs' : List (TKey × V)} {ws' : List (TKey × W)} (hp : r[i]? = some p) (h : H p = some (.dT vs)) (l : RelT K r H vs' ws') : RelS K r (upd H p (.dT vs')) (S.set i (.dt ws')) :=
  rel_wr R hp h trivial ⟨vs', upd_same, kt_mono (ext_wr hp h trivial) l⟩
theorem new_tk (R : RelS K r H S) {p : Addr} {xs : List V} {ws : List W} (h : H p = none) (l : RepL K r H xs ws) : RelS K (r ++ [p]) (upd H p (.tup xs)) (S ++ [.tk ws]) :=
  rel_mem (o := .tk ws) R h ⟨xs, upd_same, l.mono (ext_mem h)⟩
theorem new_dt (R : RelS K r H S) {p : Addr} (h : H p = none) : RelS K (r ++ [p]) (upd H p (.dT [])) (S ++ [.dt []]) :=
  rel_mem (o := .dt []) R h ⟨[], upd_same, rfl, .nil⟩
/-- a tracked tuple is the key k -/
theorem tk_at (R : RelS K r H S) {j : Nat} {b : Addr} {ws : List W} {k : TKey} (h : r[j]? = some b) (hs : S[j]? = some (.tk ws)) (hk : keyT ws = some k) : H b = some (.tup (k.map kV)) := by
  obtain ⟨xs, h1, l⟩ := R.obj j _ _ h hs
  rw [h1, rep_keyT l hk]
end
section
variable {X : Cx} {a b e f o : Expr} {es : List Expr} {da db d0 dx : DE} {dA : DA} {pos p apos cpos : Pos}
/-! ### the key: tuple(xs) that is tracked -/
def vTupleK (xs : List W) (S : Sto) (Q : WK) : Prop := match xs with
  | [.ref i] => ∃ ws, S[i]? = some (.lst ws) ∧ Q (.ref S.length) (S ++ [.tk ws])
  | _ => False
theorem tupleK_sim : SimC X.K (fun xs H Q => ∃ p ys, xs = [.ref p] ∧ ((SqL X.K H p ys ∧ ∀ l, H l = none → Q (.ref l) (upd H l (.tup ys))) ∨ (SqT X.K H p ys ∧ Q (.ref p) H))) vTupleK := by
  intro r H S xs ws Q Q0 R l d k
  cases l with
  | nil => exact d.elim
  | cons p l =>
    cases l with
    | cons p' l' => cases p <;> exact d.elim
    | nil =>
      cases p <;> try exact d.elim
      rename_i a j h
      obtain ⟨ws, h0, q⟩ := d
      obtain ⟨vs, h3, l⟩ := R.obj j _ _ h h0
      exact ⟨a, vs, rfl, .inl ⟨.of h3, fun p hp => k _ _ _ _ _ (ext_mem hp) (new_tk R hp l) (rep_mem R) q⟩⟩
theorem c_tupleK (hg : Gl X "tuple") (hm : X.mg "tuple" = none) (ha : XA X (e :: es) dA) (he : starEach (e :: es) X.env = (false, eval e X.env) :: starEach es X.env := by rfl) (hpl : (backTo pos (starEach es X.env)).any (·.1) = false := by rfl) : XE X (.Call (.Name "tuple" p) (e :: es) [] pos) (dCB vTupleK dA) :=
  xe_callTy call_tuple_of tupleK_sim hg hm (by decide +kernel) ha (by decide) (by decide) he hpl
/-! ### {} -/
def dDict0T : DE := fun _ S Q => Q (.ref S.length) (S ++ [.dt []])
theorem xe_dict0T : XE X (.Dict [] [] pos) dDict0T := ⟨_, pe_dnewT, fun r H S s env Q Q0 R E d k => fun p hp => k _ _ _ _ _ (ext_mem hp) (new_dt R hp) (rep_mem R) d⟩
/-! ### d[k] -/
def rIxDt : R2 := fun x y H Q => ∃ (p b : Addr) (kvs : List (TKey × V)) (k : TKey) (v : V), x = .ref p ∧ y = .ref b ∧ H b = some (.tup (k.map kV)) ∧ H p = some (.dT kvs) ∧ valV kvs k = some v ∧ Q v H
theorem ix_dt (hu : X.A.units + 64 < cLine) : IxR X rIxDt := by
  intro value slice pins s σ H x y v u Q I rx ry h hs
  obtain ⟨p, b, kvs, k, r, rfl, rfl, hb, hp, hv, q⟩ := h
  obtain rfl : v = Value.ref p := rx
  have g : DGet H p (.ref b) (some r) := by
    rw [← hv]
    exact .t hp hb
  exact tail_any (dict_typeIs I g) slot_dict_getitem.lookup (d_getItem (Nat.lt_of_le_of_lt (Nat.add_le_add_left (by decide : 1 ≤ 64) _) hu) I g ry fun w' s3 I3 rw' => ⟨r, H, I3, rw', q⟩) hs
def vIxT (x y : W) (S : Sto) (Q : WK) : Prop := match x, y with
  | .ref p, .ref j => ∃ kvs ws k w, S[p]? = some (.dt kvs) ∧ S[j]? = some (.tk ws) ∧ keyT ws = some k ∧ valT kvs k = some w ∧ Q w S
  | _, _ => False
theorem ixT_sim {K : Fg} : SimR K rIxDt vIxT := by
  intro r H S x y wx wy Q Q0 R px py d k
  cases px <;> cases py <;> try exact d.elim
  rename_i a i h b j h2
  obtain ⟨kvs, ws, key, w, h0, h1, hk, hv, q⟩ := d
  obtain ⟨vs, h3, l⟩ := R.obj i _ _ h h0
  obtain ⟨v, hv2, pv⟩ := (kt_val l).1 w hv
  exact ⟨a, b, vs, key, v, rfl, rfl, tk_at R h2 h1 hk, h3, hv2, k r H S _ _ .refl R pv q⟩
theorem x_ixT (hu : X.A.units + 64 < cLine) (ha : XE X a da) (hb : XE X b db) (hs : PlainIx b := by exact fun _ _ => rfl) : XE X (.Subscript a b pos) (dOp vIxT da db) := xe_ix (ix_dt hu) ixT_sim ha hb hs
/-! ### d[k] = v -/
def vSetT (o i v : W) (S : Sto) (Q : Sto → Prop) : Prop := match o, i with
  | .ref p, .ref j => ∃ kvs ws k, S[p]? = some (.dt kvs) ∧ S[j]? = some (.tk ws) ∧ keyT ws = some k ∧ kvs.length < sizeLine ∧ Q (S.set p (.dt (putT kvs k v)))
  | _, _ => False
def rSetDt : V → V → V → Hp → (Hp → Prop) → Prop := fun o i v H Q => ∃ (p b : Addr) (kvs : List (TKey × V)) (k : TKey), o = .ref p ∧ i = .ref b ∧ H b = some (.tup (k.map kV)) ∧ H p = some (.dT kvs) ∧ kvs.length < sizeLine ∧ Q (upd H p (.dT (putK kvs k v)))
theorem set_dtv (hu : X.A.units + 64 < cLine) : PSet X rSetDt := by
  intro pins s σ H o i v ov iv u Q I ro ri rv h
  obtain ⟨p, b, kvs, k, rfl, rfl, hb, hp, hl, q⟩ := h
  obtain rfl : ov = Value.ref p := ro
  exact d_setItem (Nat.lt_of_le_of_lt (Nat.add_le_add_left (by decide : 1 ≤ 64) _) hu) I (.t hp hb hl) ri rv fun s' I' => ⟨_, I', q⟩
theorem setT_sim {K : Fg} : SimSet K rSetDt vSetT := by
  intro r H S o i v wo wi w Q Q0 R po pi pv d k
  cases po <;> cases pi <;> try exact d.elim
  rename_i a i h b j h2
  obtain ⟨kvs, ws, key, h0, h1, hk, hl, q⟩ := d
  obtain ⟨vs, h3, l⟩ := R.obj i _ _ h h0
  exact ⟨a, b, vs, key, rfl, rfl, tk_at R h2 h1 hk, h3, by rw [kt_len l]; exact hl, k r _ _ (ext_wr h h3 trivial) (wr_dt R h h3 (kt_put pv l)) q⟩
theorem g_subT (hu : X.A.units + 64 < cLine) (ho : XE X o da) (hi : XE X b db) (ha : ∀ v, assign (.Subscript o b pos) X.env v = (do
      let ov ← holding [v] (eval o X.env)
      let iv ← holding [v, ov] (eval b X.env)
      standAt pos
      holding [v, ov, iv] (setItem ov iv v)
      release [v, ov, iv] []) := by intro _; rfl) : XG X (.Subscript o b pos) (gSb da db vSetT) := xg_sub (set_dtv hu) setT_sim ho hi ha
/-! ### in -/
def vInT (neg : Bool) (x y : W) (S : Sto) (Q : WK) : Prop := match x, y with
  | .ref j, .ref p => ∃ kvs ws k, S[p]? = some (.dt kvs) ∧ S[j]? = some (.tk ws) ∧ keyT ws = some k ∧ Q (.bl (neg ^^ (valT kvs k).isSome)) S
  | _, _ => False
def rInDt (neg : Bool) : R2 := fun x y H Q => ∃ (p b : Addr) (kvs : List (TKey × V)) (k : TKey), y = .ref p ∧ x = .ref b ∧ H b = some (.tup (k.map kV)) ∧ H p = some (.dT kvs) ∧ Q (.bl (neg ^^ (valV kvs k).isSome)) H
theorem op_inDt (hu : X.A.units + 64 < cLine) : OpR X (compareOp .In) (rInDt false) := by
  intro pins s σ H x y v u Q I rx ry h
  obtain ⟨p, b, kvs, k, rfl, rfl, hb, hp, q⟩ := h
  obtain rfl : u = Value.ref p := ry
  rw [Bool.false_xor] at q
  exact d_in (Nat.lt_of_le_of_lt (Nat.add_le_add_left (by decide : 1 ≤ 64) _) hu) I (.t hp hb) rx fun s' I' => ⟨.bl _, H, I', rfl, q⟩
theorem op_notInDt (hu : X.A.units + 64 < cLine) : OpR X (compareOp .NotIn) (rInDt true) := by
  intro pins s σ H x y v u Q I rx ry h
  obtain ⟨p, b, kvs, k, rfl, rfl, hb, hp, q⟩ := h
  obtain rfl : u = Value.ref p := ry
  rw [Bool.true_xor] at q
  exact d_notIn (Nat.lt_of_le_of_lt (Nat.add_le_add_left (by decide : 1 ≤ 64) _) hu) I (.t hp hb) rx fun s' I' => ⟨.bl _, H, I', rfl, q⟩
theorem inDt_sim {K : Fg} {neg : Bool} : SimR K (rInDt neg) (vInT neg) := by
  intro r H S x y wx wy Q Q0 R px py d k
  cases px <;> cases py <;> try exact d.elim
  rename_i b j h2 a i h
  obtain ⟨kvs, ws, key, h0, h1, hk, q⟩ := d
  obtain ⟨vs, h3, l⟩ := R.obj i _ _ h h0
  refine ⟨a, b, vs, key, rfl, rfl, tk_at R h2 h1 hk, h3, ?_⟩
  rw [kt_some l]
  exact k r H S _ _ .refl R (.bl _) q
theorem t_inT (hu : X.A.units + 64 < cLine) (ha : XE X a da) (hb : XE X b db) (hm : behindInMarks .In b = false := by rfl) : XT X (.Compare a [.In] [b] pos) (dB (dOp (vInT false) da db)) := xt_cmp (op_inDt hu) inDt_sim ha hb hm
theorem t_notinT (hu : X.A.units + 64 < cLine) (ha : XE X a da) (hb : XE X b db) (hm : behindInMarks .NotIn b = false := by rfl) : XT X (.Compare a [.NotIn] [b] pos) (dB (dOp (vInT true) da db)) := xt_cmp (op_notInDt hu) inDt_sim ha hb hm
/-! ### d.get(k, x) -/
def dGet2 (d0 da dx : DE) : DE := fun env S Q => d0 env S fun x S1 => ∃ p, x = .ref p ∧ ((∃ kvs, S1[p]? = some (.dk kvs)) ∨ ∃ kvs, S1[p]? = some (.dt kvs)) ∧ da env S1 fun y S2 => dx env S2 fun z S3 =>
  (∃ kvs k, S3[p]? = some (.dk kvs) ∧ keyW y = some k ∧ Q ((valW kvs k).getD z) S3) ∨ ∃ kvs j ws k, y = .ref j ∧ S3[p]? = some (.dt kvs) ∧ S3[j]? = some (.tk ws) ∧ keyT ws = some k ∧ Q ((valT kvs k).getD z) S3
theorem m_get2 (hu : X.A.units + 64 < cLine) (h0 : XE X o d0) (ha : XE X e da) (hx : XE X f dx) (m : M2 X o "get" apos e f cpos) : XE X (.Call (.Attribute o "get" apos) [e, f] [] cpos) (dGet2 d0 da dx) := by
  obtain ⟨t0, p0, s0⟩ := h0.ex
  obtain ⟨ta, pa, sa⟩ := ha.ex
  obtain ⟨tx, px, sx⟩ := hx.ex
  refine ⟨_, pe_dget2 (by omega) p0 pa px m, fun r H S s env Q Q0 R E d k => ?_⟩
  refine s0 r H S s env _ _ R E d fun r1 H1 S1 v w e1 R1 pv ⟨p, ew, hd, d1⟩ => ?_
  subst ew
  cases pv with
  | @ref a _ hp =>
    refine ⟨a, rfl, ?_, sa r1 H1 S1 s env _ _ R1 (E.mono e1) d1 fun r2 H2 S2 v2 w2 e2 R2 pv2 d2 => sx r2 H2 S2 s env _ _ R2 (E.mono (e1.trans e2)) d2 fun r3 H3 S3 v3 w3 e3 R3 pv3 d3 => ?_⟩
    · rcases hd with ⟨kvs, h⟩ | ⟨kvs, h⟩
      · obtain ⟨vs, h3, _⟩ := R1.obj p _ _ hp h
        exact .inl ⟨vs, .inl h3⟩
      · obtain ⟨vs, h3, _⟩ := R1.obj p _ _ hp h
        exact .inr ⟨vs, .inl h3⟩
    · have hp3 : r3[p]? = some a := e3.pre _ _ (e2.pre _ _ hp)
      rcases d3 with ⟨kvs, key, h1, hk, q⟩ | ⟨kvs, j, ws, key, ey, h1, h2, hk, q⟩
      · obtain ⟨vs, h3, l⟩ := R3.obj p _ _ hp3 h1
        refine ⟨valV vs key, by rw [rep_key (pv2.mono e3) hk]; exact .k h3, ?_⟩
        obtain ⟨f1, f2⟩ := kv_val (k := key) l
        cases hw : valW kvs key with
        | none =>
          rw [hw] at q
          rw [f2 hw]
          exact k r3 H3 S3 _ _ (e1.trans (e2.trans e3)) R3 pv3 q
        | some w =>
          obtain ⟨v, hv, pv⟩ := f1 w hw
          rw [hw] at q
          rw [hv]
          exact k r3 H3 S3 _ _ (e1.trans (e2.trans e3)) R3 pv q
      · subst ey
        obtain ⟨vs, h3, l⟩ := R3.obj p _ _ hp3 h1
        have pv2b := pv2.mono e3
        cases pv2b with
        | @ref b _ hb =>
          refine ⟨valV vs key, .t h3 (tk_at R3 hb h2 hk), ?_⟩
          obtain ⟨f1, f2⟩ := kt_val (k := key) l
          cases hw : valT kvs key with
          | none =>
            rw [hw] at q
            rw [f2 hw]
            exact k r3 H3 S3 _ _ (e1.trans (e2.trans e3)) R3 pv3 q
          | some w =>
            obtain ⟨v, hv, pv⟩ := f1 w hw
            rw [hw] at q
            rw [hv]
            exact k r3 H3 S3 _ _ (e1.trans (e2.trans e3)) R3 pv q
end
end DL

/-! DM2: list(d.items()), reversed(xs), sorted([()]), xs.index(x). -/
namespace DL
open PySem PySem.Spec PyProof.Rows L2
section
variable {K : Fg} {r : List Addr} {H : Hp} {S : Sto}
/-- the heap has grown, and a new member stands at p -/
theorem ext_grow {H' : Hp} {p : Addr} (hle : ∀ b o, H b = some o → H' b = some o) (hp : H p = none) : Ext K r H (r ++ [p]) H' := by
  refine ⟨⟨fun i a q => ?_, fun b xs q => ?_, fun b o u q => hle b _ q⟩, fun b u q _ => hle b u q, fun b q n => ?_⟩
  · rw [List.getElem?_append_left (List.getElem?_eq_some_iff.mp q).1]
    exact q
  · rcases q with (q | ⟨u, q⟩) | q
    · exact .inl (.inl (hle _ _ q))
    · exact .inl (.inr ⟨u, hle _ _ q⟩)
    · exact .inr q
  · rcases List.mem_append.mp q with m | m
    · exact (n m).elim
    · rw [List.mem_singleton.mp m]
      exact hp
theorem rel_grow (R : RelS K r H S) {H' : Hp} {p : Addr} {o : O} (hle : ∀ b o, H b = some o → H' b = some o) (hp : H p = none) (x : RelO K (r ++ [p]) H' p o) : RelS K (r ++ [p]) H' (S ++ [o]) := by
  refine ⟨by rw [List.length_append, List.length_append, R.len]; rfl, ?_, fun i a ob ha hs => ?_⟩
  · rw [List.nodup_append]
    refine ⟨R.nd, List.nodup_cons.mpr ⟨List.not_mem_nil, List.nodup_nil⟩, fun a ha b hb e => ?_⟩
    rw [List.mem_singleton.mp hb] at e
    exact R.notin hp (e ▸ ha)
  · by_cases l : i < r.length
    · rw [List.getElem?_append_left l] at ha
      rw [List.getElem?_append_left (by rw [← R.len]; exact l)] at hs
      obtain ⟨v, q, _⟩ := R.there ha
      exact relO_mono (ext_grow hle hp) ((hle _ _ q).trans q.symm) (R.obj i a ob ha hs)
    · rw [List.getElem?_append_right (Nat.le_of_not_lt l)] at ha
      rw [List.getElem?_append_right (by rw [← R.len]; exact Nat.le_of_not_lt l), ← R.len] at hs
      cases e : i - r.length with
      | zero =>
        rw [e] at ha hs
        have e1 : p = a := Option.some.inj ha
        have e2 : o = ob := Option.some.inj hs
        rw [← e1, ← e2]
        exact x
      | succ n =>
        rw [e] at ha
        simp at ha
end
section
variable {X : Cx} {a b e f o : Expr} {es : List Expr} {da db d0 dx : DE} {dA : DA} {pos p apos cpos : Pos}
/-! ### list(d.items()) -/
def dItems (d0 : DE) : DE := fun env S Q => d0 env S fun x S1 => match x with
  | .ref i => ∃ kvs, S1[i]? = some (.dk kvs) ∧ Q (.ref S1.length) (S1 ++ [.lst (kvs.map pairW)])
  | _ => False
theorem xe_items (hc : X.calm = true) (h0 : XE X e d0) (hg : Gl X "list") (hm : X.mg "list" = none) (hbase : attributeBase e "items" X.env (eval e X.env) = eval e X.env := by rfl) (hline : (apos.endLine == cpos.line) = true := by rfl)
    (hs : starEach [.Call (.Attribute e "items" apos) [] [] cpos] X.env = (false, eval (.Call (.Attribute e "items" apos) [] [] cpos) X.env) :: starEach [] X.env := by rfl) :
    XE X (.Call (.Name "list" p) [.Call (.Attribute e "items" apos) [] [] cpos] [] pos) (dItems d0) := by
  obtain ⟨t0, p0, s0⟩ := h0.ex
  refine ⟨_, LiI.pe_listItems hc p0 hg hm (by decide +kernel) hbase hline hs, fun r H S s env Q Q0 R E d k => ?_⟩
  refine s0 r H S s env _ _ R E d fun r1 H1 S1 v w e1 R1 pv d1 => ?_
  cases pv <;> try exact d1.elim
  rename_i a i hp
  obtain ⟨kvs, h1, q⟩ := d1
  obtain ⟨vs, h3, l⟩ := R1.obj i _ _ hp h1
  refine ⟨a, vs, rfl, h3, fun H' p ts hle hpn htn hpt hl hts => ?_⟩
  have e2 : Ext X.K r1 H1 (r1 ++ [p]) H' := ext_grow hle hpn
  have go : ∀ {ts : List Addr} {vs : List (Key × V)} {kvs : List (Key × W)}, Paired (fun (t : Addr) (q : Key × V) => H' t = some (.tup [kV q.1, q.2])) ts vs → RelKV X.K r1 H1 vs kvs → RepL X.K (r1 ++ [p]) H' (ts.map V.ref) (kvs.map pairW) := by
    intro ts vs kvs hp
    induction hp generalizing kvs with
    | nil =>
      intro l
      cases kvs with
      | nil => exact .nil
      | cons q kvs =>
        have := l.1
        simp at this
    | cons h t ih =>
      intro l
      cases kvs with
      | nil =>
        have := l.1
        simp at this
      | cons q kvs =>
        obtain ⟨v, vs', e1, pv, l2⟩ := kv_inv l
        obtain ⟨rfl, rfl⟩ := List.cons.inj e1
        exact .cons (.tup (.of h) (.cons (rep_wK _) (.cons (pv.mono e2) .nil))) (ih l2)
  exact k _ _ _ _ _ (e1.trans e2) (rel_grow (o := .lst (kvs.map pairW)) R1 hle hpn ⟨_, hl, go hts l⟩) (rep_mem R1) q
/-! ### reversed(xs) of a list -/
def iReversed (dA : DA) : DI := fun env S Q => dA env S fun us S1 => match us with
  | [.ref i] => ∃ ws, S1[i]? = some (.lst ws) ∧ Q ws.reverse (fun S' => S'[i]? = some (.lst ws)) S1
  | _ => False
theorem xi_reversed {tg : Expr} (hg : Gl X "reversed") (hm : X.mg "reversed" = none) (ha : XA X [e] dA) (hs : starEach [e] X.env = [(false, eval e X.env)] := by rfl) : XI X tg (.Call (.Name "reversed" p) [e] [] pos) (iReversed dA) := by
  obtain ⟨t, pa, sa⟩ := ha.ex
  refine ⟨_, pi_reversed hg hm pa hs, fun r H S st env Q Q0 R E g k => ?_⟩
  refine sa r H S st env _ _ R E g fun r1 H1 S1 vs us e1 R1 q1 d1 => ?_
  cases q1 with
  | nil => exact d1.elim
  | cons pa pb =>
    cases pb with
    | cons _ _ => cases pa <;> exact d1.elim
    | nil =>
      cases pa <;> try exact d1.elim
      rename_i a i hp
      obtain ⟨ws, hi, q⟩ := d1
      obtain ⟨xs, h1, l⟩ := R1.obj i _ _ hp hi
      refine ⟨a, xs, rfl, .of h1, k r1 H1 S1 _ _ _ e1 R1 ?_ q⟩
      have now : ∀ r' H' S', Kp X.K r1 H1 r' H' → RelS X.K r' H' S' → S'[i]? = some (.lst ws) → ∃ ys, H' a = some (.lst ys) ∧ RepL X.K r' H' ys ws := fun r' H' S' e R' st => R'.obj i _ _ (e.pre _ _ hp) st
      refine ⟨fun r' H' S' j x e R' st hx => ?_, fun r' H' S' j e R' st hj => ?_⟩
      · obtain ⟨ys, h2, l2⟩ := now r' H' S' e R' st
        have hj : j < ws.length := by
          have := (List.getElem?_eq_some_iff.mp hx).1
          rwa [List.length_reverse] at this
        have hx2 : ws[ws.length - 1 - j]? = some x := by
          rw [List.getElem?_reverse hj] at hx
          exact hx
        have hl : xs.length = ws.length := l.length
        obtain ⟨v, hv, pv⟩ := l2.get hx2
        refine ⟨⟨by rw [hl]; exact hj, ys, v, .of h2, by rw [hl]; exact hv⟩, fun v' H3 hy => ?_⟩
        obtain ⟨rfl, hall⟩ := hy
        have z := hall ys (.of h2)
        rw [hl, hv] at z
        obtain rfl := Option.some.inj z
        exact ⟨.refl, R', pv⟩
      · show xs.length ≤ j
        rw [l.length]
        rw [List.length_reverse] at hj
        exact hj
end
end DL

/-! DM3: sorted([()]). -/
namespace DL
open PySem PySem.Spec PyProof.Rows L2
section
variable {prog : Program} {w : World} {A : Around} {s : Shared}
theorem sortsNil {v : Value} {as : List Addr} (r : Reads s.heap v (.tuple []) as) (hu : A.units + 8 < cLine) : PySem.W.SortsAt prog w A s (PySem.W.dataKind s.heap [.tuple []]) [v] := by
  have hal : PySem.W.AllAlike [.tuple []] := fun d hd d' hd' => by
    rw [List.mem_singleton.mp hd, List.mem_singleton.mp hd']
    rfl
  refine ⟨fun u hu => ?_, PyProof.Rows.tuples' false, ?_, fun h2 => absurd h2 (by simp)⟩
  · rw [List.mem_singleton.mp hu]
    exact ⟨_, PySem.W.dataKind_some hal (List.mem_singleton.mpr rfl) r⟩
  · intro E x y a b Q ha hb hq
    obtain ⟨d, as, hd, ra, rfl⟩ := PySem.W.dataKind_inv ha
    obtain ⟨d', as', hd', rb, rfl⟩ := PySem.W.dataKind_inv hb
    rw [List.mem_singleton] at hd hd'
    subst hd hd'
    cases ra with
    | tuple h1 h2 h3 h4 =>
      cases rb with
      | tuple k1 k2 k3 k4 =>
        refine PySem.W.kat_lt h1 h3 k1 k3 (PySem.W.katLex_alike [] [] 0 _ _ _ _ h4 k4 rfl (by simp only [PyData.depthAll]; omega) (fun hb => absurd hb Bool.false_ne_true) ?_ hq)
        have n1 := SeqAt.ReadsAll.length _ _ _ h4
        have n2 := SeqAt.ReadsAll.length _ _ _ k4
        rw [Array.length_toList] at n1 n2
        rw [n1, n2]
end
section
variable {X : Cx} {e : Expr} {es : List Expr} {dA : DA} {pos p : Pos}
def rSort1 (K : Fg) : List V → Hp → VK → Prop := fun vs H Q => ∃ (a b : Addr), vs = [.ref a] ∧ SqL K H a [.ref b] ∧ SqT K H b [] ∧ ∀ p, H p = none → Q (.ref p) (upd H p (.lst [.ref b]))
theorem cr_sort1 (hu : X.A.units + 64 < cLine) : CallR X (.builtin "sorted") (rSort1 X.K) := by
  intro pins s σ H vs us Q I r h
  obtain ⟨a, b, rfl, hs, hb, q⟩ := h
  obtain ⟨its, rv, hl, hz⟩ := I.list hs
  rw [Vals.ref1 r]
  cases rv with
  | cons r1 r2 =>
    cases r2
    cases r1
    obtain ⟨jts, rj, hj, _⟩ := I.tuple hb
    cases rj
    obtain ⟨ob, ho, hc, n, hd⟩ := hj
    have rd : Reads s.heap (.ref b) (.tuple []) [] := .tuple ho hc hd .nil
    refine PySem.W.sorted_vals (vs := [.ref b]) hl.isList (sortsNil (s := { s with heap := PySem.W.sortingHeap (PySem.W.copyHeap s.heap [.ref b]) (s.heap.objs.size + 1) [.ref b] }) (PyProof.Rows.Reads.keeps (fun _ _ => PySem.W.sorting_copy_old) rd) (by simp only [Around.in1_units]; omega)) (by rw [sizeLine_eq]; show 1 ≤ _; decide) ?_
    have e1 : PySem.W.sortVals (PySem.W.dataKind (PySem.W.sortingHeap (PySem.W.copyHeap s.heap [.ref b]) (s.heap.objs.size + 1) [.ref b]) [.tuple []]) false [Value.ref b] [.ref b] = [.ref b] := by
      unfold PySem.W.sortVals
      show (List.mergeSort [(Value.ref b, Value.ref b)] _).map Prod.snd = _
      rw [List.mergeSort_singleton]
      rfl
    rw [e1]
    obtain ⟨ep, he'⟩ := PyProof.Rows.sortedAll_at s.heap [.ref b] (List.toArray [.ref b])
    exact ⟨.ref _, upd H (s.heap.objs.size + 1) (.lst [.ref b]), I.laid (t' := s.toks) (fun _ _ => PyProof.Rows.sortedAll_old) (Nat.le_succ _)
      ⟨by rw [sizeLine_eq]; show 1 ≤ _; decide, [.ref b], ep, .cons rfl .nil, he'⟩, rfl, q _ (I.hok.fresh (Nat.le_succ _))⟩
def vSort1 (xs : List W) (S : Sto) (Q : WK) : Prop := match xs with
  | [.ref i] => S[i]? = some (.lst [.tup []]) ∧ Q (.ref S.length) (S ++ [.lst [.tup []]])
  | _ => False
theorem sort1_sim {K : Fg} : SimC K (rSort1 K) vSort1 := by
  intro r H S xs ws Q Q0 R l d k
  cases l with
  | nil => exact d.elim
  | cons p l =>
    cases l with
    | cons p' l' => cases p <;> exact d.elim
    | nil =>
      cases p <;> try exact d.elim
      rename_i a i h
      obtain ⟨h0, q⟩ := d
      obtain ⟨vs, h5, l⟩ := R.obj i _ _ h h0
      cases l with
      | cons p l2 =>
        cases l2
        cases p with
        | @tup b xs _ hb lb =>
          cases lb
          exact ⟨a, b, rfl, .of h5, hb, fun p hp => k _ _ _ _ _ (ext_mem hp) (new_lst R hp (.cons (.tup hb .nil) .nil)) (rep_mem R) q⟩
def vSortE (xs : List W) (S : Sto) (Q : WK) : Prop := vSorted xs S Q ∨ vSort1 xs S Q
theorem c_sortE (hu : X.A.units + 64 < cLine) (hg : Gl X "sorted") (hm : X.mg "sorted" = none) (ha : XA X (e :: es) dA) (he : starEach (e :: es) X.env = (false, eval e X.env) :: starEach es X.env := by rfl) (hpl : (backTo pos (starEach es X.env)).any (·.1) = false := by rfl) : XE X (.Call (.Name "sorted" p) (e :: es) [] pos) (dCB vSortE dA) :=
  xe_callB (CallR.or (cr_sortD hu) (cr_sort1 hu)) (SimC.or sorted_sim sort1_sim) hg hm (by decide +kernel) ha (by decide) (by decide) he hpl
end
end DL

/-! DN: sets of whole numbers and texts (any number below the scan's bound). -/
namespace KS
open PySem PySem.Spec PyProof.Rows L2
/-- a member: the value that stands there, the key that it is -/
abbrev KMem := Value × Key
section
variable {P : Program} {w : World} {A : Around} {E : Value → Shared → Prop} {s : Shared}
def entK (P : Program) (w : World) (m : KMem) : Int × Value := ((mixKind P w).hash m.2, m.1)
structure SetK1 (P : Program) (w : World) (h : Heap) (a : Addr) (M : List KMem) : Prop where
  ex : ∃ o es ep t, h.get? a = some o ∧ o.ExactSet ∧ o.data = .set es ep t ∧ es.toList = M.map (entK P w) ∧ es.size < scanBound ∧ t.fits es.size = true ∧ Ris t.place.toList ∧ (w.params.followText "set-order" = true ∨ t.led = true)
  good : ∀ m ∈ M, RelV (kV m.2) m.1
  uni : (M.map (·.2)).Nodup
variable {a : Addr} {M : List KMem}
theorem SetK1.at {h h' : Heap} (R : SetK1 P w h a M) (k : ∀ o, h.get? a = some o → h'.get? a = some o) : SetK1 P w h' a M := by
  obtain ⟨o, es, ep, t, ho, r⟩ := R.ex
  exact ⟨⟨o, es, ep, t, k o ho, r⟩, R.good, R.uni⟩
theorem scan_kV {k : Key} {u : Value} (r : RelV (kV k) u) : u.scannable = true := by
  cases k <;> (obtain ⟨t, rfl⟩ := r; rfl)
theorem elems_ok {es : Array (Int × Value)} (h : es.toList = M.map (entK P w)) (g : ∀ m ∈ M, RelV (kV m.2) m.1) : ElemsOf (mixKind P w) es.toList := fun e he => by
  rw [h] at he
  obtain ⟨m, hm, rfl⟩ := List.mem_map.mp he
  exact ⟨⟨m.2, kV_is (g m hm), rfl⟩, scan_kV (g m hm)⟩
theorem is_iff {m : KMem} (g : RelV (kV m.2) m.1) (k : Key) : (mixKind P w).is k m.1 = true ↔ m.2 = k :=
  ⟨fun h => (mixKind P w).inj _ _ _ (kV_is g) h, fun h => h ▸ kV_is g⟩
/-- what stands behind the new entry: perhaps the table laid anew -/
theorem storeQ {g : Bool → Sem Unit} (hg : ∀ (b : Bool) (z : Shared) (Q' : Unit → Shared → Prop), Q' () z → wpAny (model P w) A (g b) Q' E z) {o : Obj} {es es1 : Array (Int × Value)} {ep : Nat} {t t1 : SetTable} (ho : s.heap.get? a = some o) (hex : o.ExactSet)
    (hd : o.data = .set es ep t) (h1 : es1.toList = M.map (entK P w)) (good : ∀ m ∈ M, RelV (kV m.2) m.1) (uni : (M.map (·.2)).Nodup) (hb : es1.size < scanBound) (hf : t1.fits es1.size = true) (hr : Ris t1.place.toList)
    (hl : w.params.followText "set-order" = true ∨ t1.led = true) {wd : Bool} {R : Option Bool → Shared → Prop} (q : ∀ h' M', Heap.SameBut a s.heap h' → SetK1 P w h' a M' → M'.Perm M → R (some true) { s with heap := h' }) :
    wpAny (model P w) A (do
      storeSet a es1 t1
      if (!wd && t1.tooFull) = true then do
          g (relayAll t1 es1 (SetTable.grown es1.size)).2.2
          storeSet a (relayAll t1 es1 (SetTable.grown es1.size)).1 (relayAll t1 es1 (SetTable.grown es1.size)).2.1
          pure (some true)
        else pure (some true)) R E s := by
  refine wpAny_bind (wpAny_storeSet_of ho hd ?_ (fits_of_scanBound hb))
  have ho1 := store_at (es' := es1) (t' := t1) ho hd
  have sb := Heap.SameBut.update s.heap a (Obj.putSet es1 t1)
  split
  · have p := relayAll_perm t1 es1 (SetTable.grown es1.size)
    have f2 := relayAll_fits t1 es1 (SetTable.grown es1.size)
    have r2 := relayAll_ris t1 es1 (SetTable.grown es1.size)
    have l2 := relayAll_led t1 es1 (SetTable.grown es1.size)
    generalize relayAll t1 es1 (SetTable.grown es1.size) = Z at p f2 r2 l2 ⊢
    obtain ⟨es2, t2, gv⟩ := Z
    dsimp only at p f2 r2 l2 ⊢
    obtain ⟨M2, pM, e2⟩ := DL.perm_pre p M h1
    have hz : es2.size = es1.size := by rw [← Array.length_toList, p.length_eq, Array.length_toList]
    refine wpAny_bind (hg _ _ _ (wpAny_bind (wpAny_storeSet_of ho1 rfl ?_ (fits_of_scanBound (by rw [hz]; exact hb)))))
    refine wpAny_pure (q _ M2 (sb.trans (Heap.SameBut.update _ a _)) ⟨⟨_, es2, _, t2, store_at (es' := es2) (t' := t2) ho1 rfl, hex, rfl, e2, by rw [hz]; exact hb, f2, r2, hl.imp id fun z => by rw [l2]; exact z⟩, fun m hm => good m (pM.mem_iff.mp hm), (pM.map (·.2)).nodup_iff.mpr uni⟩ pM)
  · exact wpAny_pure (q _ M sb ⟨⟨_, es1, _, t1, ho1, hex, rfl, h1, hb, hf, hr, hl⟩, good, uni⟩ (List.Perm.refl _))
theorem addK {x : Value} {k : Key} (R : SetK1 P w s.heap a M) (hx : RelV (kV k) x) (few : M.length + 1 < scanBound) {Q : Bool → Shared → Prop}
    (q : ∀ b h' M', Heap.SameBut a s.heap h' → SetK1 P w h' a M' → (k ∈ M.map (·.2) → M' = M) → (k ∉ M.map (·.2) → M'.Perm ((x, k) :: M)) → Q b { s with heap := h' }) :
    wpAny (model P w) A (setAddHashed a x ((mixKind P w).hash k)) Q E s := by
  obtain ⟨o, es, ep, t, ho, hex, hd, h1, hb, hf, hr, hl⟩ := R.ex
  have hel := elems_ok h1 R.good
  have hkey : (mixKind P w).is k x = true := kV_is hx
  have hsc := scan_kV hx
  have hz : es.size = M.length := by rw [← Array.length_toList, h1, List.length_map]
  unfold setAddHashed setAddHashedIn
  refine wpAny_holding (wpAny_bind (wpAny_setState_of ho hd hf ?_))
  dsimp only
  rw [byScan_of hsc hb hel]
  simp only [↓reduceIte]
  unfold setAddByScan
  refine wpAny_bind (wpAny_bind (wpAny_rule (wpAny_bind (wpAny_setScan_of hkey ho hd hf hel ?_))))
  cases hfi : List.findIdx? (fun e => (mixKind P w).is k e.2) es.toList with
  | some j =>
    dsimp only
    obtain ⟨hj, pj, _⟩ := List.findIdx?_eq_some_iff_getElem.mp hfi
    have hm : es.toList[j] ∈ M.map (entK P w) := by rw [← h1]; exact List.getElem_mem hj
    obtain ⟨m, hm1, em⟩ := List.mem_map.mp hm
    rw [← em] at pj
    have hk : m.2 = k := (is_iff (R.good m hm1) k).mp pj
    exact wpAny_pure (wpAny_pure (q false s.heap M (Heap.SameBut.refl a s.heap) R (fun _ => rfl) fun z => absurd (List.mem_map.mpr ⟨m, hm1, hk⟩) z))
  | none =>
    dsimp only
    have hnk : k ∉ M.map (·.2) := fun z => by
      obtain ⟨m, hm, e⟩ := List.mem_map.mp z
      have c := List.findIdx?_eq_none_iff.mp hfi (entK P w m) (by rw [h1]; exact List.mem_map.mpr ⟨m, hm, rfl⟩)
      have c2 : (mixKind P w).is k m.1 = false := c
      rw [(is_iff (R.good m hm) k).mpr e] at c2
      cases c2
    have gave : ∀ (b : Bool) {z : Shared} {Q' : Unit → Shared → Prop}, Q' () z → wpAny (model P w) A (match b with | true => rule "set.scan.the-table-gave-way" | false => pure ()) Q' E z := fun b z Q' h => by
      cases b <;> first | exact wpAny_pure h | exact wpAny_rule h
    have pm := layNew_perm t es ((mixKind P w).hash k) x
    have f1 := layNew_fits t es ((mixKind P w).hash k) x
    have r1 := layNew_ris t es ((mixKind P w).hash k) x hr
    have l1 := layNew_led t es ((mixKind P w).hash k) x
    generalize layNew t es ((mixKind P w).hash k) x = Z at pm f1 r1 l1 ⊢
    obtain ⟨es1, t1, wd, gv⟩ := Z
    dsimp only at pm f1 r1 l1 ⊢
    rw [Array.toList_push] at pm
    have pc : es1.toList.Perm (entK P w (x, k) :: es.toList) := pm.trans (List.perm_append_singleton _ _)
    rw [h1] at pc
    obtain ⟨M1, pM, e1⟩ := DL.perm_pre pc ((x, k) :: M) rfl
    have hz1 : es1.size = M.length + 1 := by rw [← Array.length_toList, pc.length_eq, List.length_cons, List.length_map]
    have hb1 : es1.size < scanBound := by rw [hz1]; exact few
    have good1 : ∀ m ∈ M1, RelV (kV m.2) m.1 := fun m hm => by
      rcases List.mem_cons.mp (pM.mem_iff.mp hm) with e | h
      · rw [e]
        exact hx
      · exact R.good m h
    have uni1 : (M1.map (·.2)).Nodup := (pM.map (·.2)).nodup_iff.mpr (List.nodup_cons.mpr ⟨hnk, R.uni⟩)
    have led1 : w.params.followText "set-order" = true ∨ t1.led = true := hl.imp id fun z => by rw [l1]; exact z
    refine wpAny_bind (gave _ ?_)
    have fin : ∀ h' M', Heap.SameBut a s.heap h' → SetK1 P w h' a M' → M'.Perm M1 → Q true { s with heap := h' } := fun h' M' sb r p => q true h' M' sb r (fun z => absurd z hnk) fun _ => p.trans pM
    split
    · refine wpAny_bind ?_
      rw [hashByValue_scannable 8 hsc]
      refine wpAny_pure ?_
      cases plainKind x
      · refine storeQ (t1 := { t1 with plain := false }) ?_ ho hex hd e1 good1 uni1 hb1 (SetTable.fits_plain_off f1) r1 led1 fun h' M' sb r p => ?_
        · intro b z Q' h
          cases b <;> first | exact wpAny_pure h | exact wpAny_rule h
        · dsimp only
          exact wpAny_pure (fin h' M' sb r p)
      · refine storeQ ?_ ho hex hd e1 good1 uni1 hb1 f1 r1 led1 fun h' M' sb r p => ?_
        · intro b z Q' h
          cases b <;> first | exact wpAny_pure h | exact wpAny_rule h
        · dsimp only
          exact wpAny_pure (fin h' M' sb r p)
    · refine wpAny_bind (wpAny_pure ?_)
      simp only [↓reduceIte]
      refine storeQ ?_ ho hex hd e1 good1 uni1 hb1 f1 r1 led1 fun h' M' sb r p => ?_
      · intro b z Q' h
        cases b <;> first | exact wpAny_pure h | exact wpAny_rule h
      · dsimp only
        exact wpAny_pure (fin h' M' sb r p)
end
end KS

/-! DN2: sorted(set(xs)), xs whole numbers or texts. -/
namespace KS
open PySem PySem.Spec PyProof.Rows L2 DL
section
variable {P : Program} {w : World} {A : Around} {E : Value → Shared → Prop} {s : Shared}
theorem freshK {h : Heap} {a : Addr} (ho : h.get? a = some (NS.newSet w)) : SetK1 P w h a [] :=
  ⟨⟨_, #[], 0, _, ho, ⟨rfl, rfl, rfl⟩, rfl, rfl, by decide, rfl, List.Pairwise.nil, by
    show _ ∨ (!w.params.followText "set-order") = true
    cases w.params.followText "set-order"
    · exact .inr rfl
    · exact .inl rfl⟩, (by intro m hm; cases hm), List.nodup_nil⟩
abbrev keyKd (P : Program) (w : World) : NS.SetKd P w where
  μ := KMem
  κ := Key
  key := (·.2)
  val := (·.1)
  Is _ m := RelV (kV m.2) m.1
  At h a M := SetK1 P w h a M
  keepI := fun x _ => x
  keepA := fun R k _ => R.at k
  fresh := freshK
  add := fun {A E s a M m Q} R hm hu few q => by
    unfold setAdd
    refine wpAny_holding (wpAny_bind ((mixKind P w).pyHash (kV_is hm) ?_))
    exact addK (s := { s with toks := s.toks + 1 }) R hm (by unfold scanBound; omega) fun b h' M' sb R' c1 c2 => q b h' _ M' (Nat.le_add_right _ _) sb R' c1 c2
def SetKO (P : Program) (w : World) (a : Addr) (M : List KMem) : HO := .ext fun h => SetK1 P w h a M
theorem setKO_ok {H : Hp} {h : Heap} {a : Addr} {M : List KMem} (R : SetK1 P w h a M) : ObjOk P w H h a (SetKO P w a M) := by
  obtain ⟨o, es, ep, t, ho, r⟩ := R.ex
  exact ⟨R, ⟨o, ho⟩, fun h1 h2 x k => x.at k⟩
/-- found.add(x) -/
theorem setAddCall {a : Addr} {M : List KMem} {x : Value} {k : Key} {Q : Value → Shared → Prop} (R : SetK1 P w s.heap a M) (hx : RelV (kV k) x) (few : M.length + 1 < scanBound)
    (q : ∀ h' tk M', Heap.SameBut a s.heap h' → SetK1 P w h' a M' → (k ∈ M.map (·.2) → M' = M) → (k ∉ M.map (·.2) → M'.Perm ((x, k) :: M)) → Q .none { s with heap := h', toks := tk }) :
    wpAny (model P w) A (call (.builtin "set.add") [.ref a, x]) Q E s := by
  obtain ⟨o, es, ep, t, ho, hex, _⟩ := R.ex
  have hT : s.TypeIs (.ref a) "set" := ⟨o, ho, hex.1⟩
  refine wpAny_call_entry F.slot_set_add hT F.entry_set_add ?_ (F.args_set_add_2 _ _)
  unfold Builtin.«set.add» Builtin.Frozenset.oneOther
  simp only [List.isEmpty_nil, bind_assoc]
  unfold Builtin.Frozenset.addrOf setAdd
  refine wpAny_bind (wpAny_pure ?_)
  try dsimp only
  refine wpAny_bind (wpAny_pure ?_)
  try dsimp only
  refine wpAny_bind (wpAny_holding (wpAny_bind ((mixKind P w).pyHash (kV_is hx) ?_)))
  refine addK (s := { s with toks := s.toks + 1 }) R hx few fun b h' M' sb R' c1 c2 => ?_
  show wpAny _ _ (ret Value.none) _ _ _
  exact wpAny_pure ⟨_, rfl, q h' _ M' sb R' c1 c2⟩
end
def datK : Key → PyData
  | .inl i => .int i
  | .inr x => .str x
theorem datW_wK (k : Key) : datW (wK k) = datK k := by cases k <;> rfl
theorem readsK {h : Heap} {k : Key} {v : Value} (r : RelV (kV k) v) : Reads h v (datK k) [] := by
  cases k with
  | inl i =>
    obtain ⟨t, rfl⟩ := r
    exact .int _ _
  | inr x =>
    obtain ⟨t, rfl⟩ := r
    exact .str _ _
/-- all are whole numbers, or all are texts -/
def AlikeK (ks : List Key) : Prop := ∀ a ∈ ks, ∀ b ∈ ks, PySem.W.alike (datK a) (datK b) = true
theorem sortableK (ks : List Key) : PySem.W.Sortable (ks.map datK) := .inr fun d hd => by
  obtain ⟨k, _, rfl⟩ := List.mem_map.mp hd
  cases k <;> exact ⟨fun e => PyData.noConfusion e, fun xs e => PyData.noConfusion e⟩
section
variable {X : Cx}
def rSetK (K : Fg) (P : Program) (w : World) : List V → Hp → VK → Prop := fun xs H Q => ∃ (l : Addr) (ks : List Key), xs = [.ref l] ∧ SqL K H l (ks.map kV) ∧ ks.length < 64 ∧
  ∀ (a : Addr) (M : List KMem), H a = none → (∀ m ∈ M, m.2 ∈ ks) → (∀ k ∈ ks, k ∈ M.map (·.2)) → (M.map (·.2)).Nodup → M.length < 64 → Q (.ref a) (upd H a (SetKO P w a M))
theorem zip_keys : ∀ {ks : List Key} {us : List Value}, Vals (ks.map kV) us → (us.zip ks).map (·.1) = us ∧ (us.zip ks).map (·.2) = ks ∧ ∀ m ∈ us.zip ks, RelV (kV m.2) m.1
  | [], _, .nil => ⟨rfl, rfl, by intro m hm; cases hm⟩
  | k :: ks, u :: us, .cons r t => by
    obtain ⟨e1, e2, h⟩ := zip_keys t
    refine ⟨congrArg (u :: ·) e1, congrArg (k :: ·) e2, fun m hm => ?_⟩
    rcases List.mem_cons.mp hm with e | hm
    · rw [e]
      exact r
    · exact h m hm
theorem cr_setK (hc : X.calm = true) (hu : X.A.units + 64 < cLine) : CallR X (.type "set") (rSetK X.K X.prog X.w) := by
  intro pins s σ H xs us Q I r h
  obtain ⟨l, ks, rfl, hl, few, q⟩ := h
  rw [Vals.ref1 r]
  obtain ⟨its, rv, pl, hz⟩ := I.list hl
  have hn : H s.heap.objs.size = none := I.hok.fresh (Nat.le_refl _)
  obtain ⟨z1, z2, z3⟩ := zip_keys rv
  have hit : its.toArray.toList = (its.zip ks).map (·.1) := by rw [z1]
  have hlen : (its.zip ks).length = ks.length := by
    have z := congrArg List.length z2
    rwa [List.length_map] at z
  generalize its.zip ks = ms at z1 z2 z3 hit hlen
  refine NS.setCall (keyKd X.prog X.w) ms (I.ok.hd hc) pl.isList hit z3 (by omega) (by omega) fun h' tk M R g k => ?_
  have sub : ∀ m ∈ M, m.2 ∈ ks := fun m hm => by
    rw [← z2]
    exact List.mem_map.mpr ⟨m, List.mem_of_mem_take (g.sub m hm), rfl⟩
  refine ⟨.ref s.heap.objs.size, upd H s.heap.objs.size (SetKO X.prog X.w s.heap.objs.size M), I.laid (t' := tk) k (Nat.le_refl _) (setKO_ok R), rfl, q _ M hn sub (fun b hb => ?_) R.uni (by have := g.len; omega)⟩
  rw [← z2] at hb
  obtain ⟨m, hm, rfl⟩ := List.mem_map.mp hb
  exact g.all m (by rw [List.take_of_length_le (Nat.le_refl _)]; exact hm)
def rSortK (K : Fg) (P : Program) (w : World) : List V → Hp → VK → Prop := fun xs H Q => ∃ (a : Addr) (M : List KMem), xs = [.ref a] ∧ H a = some (SetKO P w a M) ∧ AlikeK (M.map (·.2)) ∧ M.length < 4096 ∧
  ∀ (us : List Key) (p : Addr), us.Perm (M.map (·.2)) → H p = none → Q (.ref p) (upd H p (.lst ((us.mergeSort (PySem.W.dataLe false datK)).map kV)))
theorem vals_keys {ks : List Key} : ∀ {us : List Value}, PySem.W.EachIs (fun (v : Value) (b : Key) => RelV (kV b) v) us ks → Vals (ks.map kV) us := fun h => by
  induction h with
  | nil => exact .nil
  | cons r t ih => exact .cons r ih
theorem cr_sortK (hc : X.calm = true) (hu : X.A.units + 80 < cLine) : CallR X (.builtin "sorted") (rSortK X.K X.prog X.w) := by
  intro pins s σ H xs us Q I r h
  obtain ⟨a, M, rfl, ha, al, few, q⟩ := h
  rw [Vals.ref1 r]
  have R : SetK1 X.prog X.w s.heap a M := (I.hok a _ ha).1
  obtain ⟨o, es, ep, t, ho, hex, hd, ents, hb, hf, hr, hled⟩ := R.ex
  refine Calls.call_function_entry kind_sorted plain_sorted entry_sorted (args_sorted1 _) ?_
  unfold Builtin.«sorted»
  refine wpAny_bind (m := checkCount "sorted" 1 1 _) (wpAny_pure ?_)
  refine wpAny_bind (collect_set (A := X.A.in1) (I.ok.hd hc) ⟨o, ho, hex.1, hd⟩ hf hb hr hled fun s1 vs k1 hz g1 o1 pm => ?_)
  have hes : es.toList.map (·.2) = M.map (·.1) := by
    rw [ents, List.map_map]
    rfl
  rw [hes] at pm
  obtain ⟨N, hN, rfl⟩ := perm_pre pm M rfl
  have hNl : N.length < 4096 := by rw [hN.length_eq]; exact few
  have good : ∀ m ∈ N, RelV (kV m.2) m.1 := fun m hm => R.good m (hN.mem_iff.mp hm)
  refine wpAny_bind (wpAny_newList ?_ (by rw [List.length_map, sizeLine_eq]; omega))
  have hoL : (s1.heap.push { cls := .type "list", data := .seq (N.map (·.1)).toArray }).get? s1.heap.objs.size = some (seqObj "list" (N.map (·.1)).toArray 0) := Heap.get?_push_size _ rfl
  have k2 : ∀ b o, s.heap.get? b = some o → (s1.heap.push { cls := .type "list", data := .seq (N.map (·.1)).toArray }).get? b = some o := fun b o e => Heap.get?_push_of_some _ (k1 b o e)
  have ea : ∀ {N : List KMem}, (∀ m ∈ N, RelV (kV m.2) m.1) → PySem.W.EachIs (fun (v : Value) (b : Key) => RelV (kV b) v) (N.map (·.1)) (N.map (·.2)) := by
    intro N
    induction N with
    | nil => intro _; exact .nil
    | cons m N ih => intro h; exact .cons (h m List.mem_cons_self) (ih fun x hx => h x (List.mem_cons_of_mem _ hx))
  have er : ∀ {h : Heap} {n : Addr} {N : List KMem}, (∀ m ∈ N, RelV (kV m.2) m.1) → PySem.W.EachIs (fun (v : Value) (b : Key) => ∃ as, Reads h v (datK b) as ∧ n ∉ as) (N.map (·.1)) (N.map (·.2)) := by
    intro h n N
    induction N with
    | nil => intro _; exact .nil
    | cons m N ih => intro hh; exact .cons ⟨[], readsK (hh m List.mem_cons_self), List.not_mem_nil⟩ (ih fun x hx => hh x (List.mem_cons_of_mem _ hx))
  have hal : PySem.W.AllAlike ((N.map (·.2)).map datK) := fun d hd d' hd' => by
    obtain ⟨a, ha, rfl⟩ := List.mem_map.mp hd
    obtain ⟨b, hb, rfl⟩ := List.mem_map.mp hd'
    exact al a ((hN.map (·.2)).mem_iff.mp ha) b ((hN.map (·.2)).mem_iff.mp hb)
  refine wpAny_bind (wpAny_holding (PySem.W.list_sort_data (s := { s1 with heap := s1.heap.push { cls := .type "list", data := .seq (N.map (·.1)).toArray } }) hoL (ea good) (er good) hal (sortableK _)
    (by rw [List.length_map, sizeLine_eq]; omega) (fun b hb => by cases b <;> (simp only [Around.in1_units, datK, PyData.depth]; omega)) fun out ho2 eo => ?_))
  obtain ⟨c, hg⟩ := sortedHeap_at (vs := N.map (·.1)) (out := out.toArray) hoL
  have hn : H s1.heap.objs.size = none := I.hok.fresh hz
  have k3 : ∀ b o, s.heap.get? b = some o → (sortedHeap (s1.heap.push { cls := .type "list", data := .seq (N.map (·.1)).toArray }) s1.heap.objs.size (N.map (·.1)) out.toArray).get? b = some o := fun b o e => by
    have hlt := Heap.lt_size (k1 b o e)
    rw [sortedHeap_old (Nat.ne_of_lt hlt) (by rw [size_push']; exact Nat.lt_succ_of_lt hlt)]
    exact k2 b o e
  have J := I.call (g' := s1.gens) (d' := s1.drawn) (t' := s1.toks) (ch := []) (Un.laid k3 hz hn) (I.hok.laid (o := .lst (((N.map (·.2)).mergeSort (PySem.W.dataLe false datK)).map kV)) k3 hz
    ⟨by rw [List.length_map, List.length_mergeSort, List.length_map, sizeLine_eq]; omega, out, c, vals_keys eo, hg⟩) (by rw [g1]; exact I.bare) (fun _ z => nomatch z)
  refine wpAny_pure ⟨_, rfl, ?_⟩
  have e : s1.os = s.os := o1
  obtain ⟨h1, gg, dd, tt, oo⟩ := s1
  obtain rfl : oo = s.os := e
  exact ⟨.ref h1.objs.size, _, J, rfl, q (N.map (·.2)) _ (hN.map (·.2)) hn⟩
end
end KS

/-! DO: set comprehensions of two clauses whose items are whole numbers or texts. -/
namespace KS
open PySem PySem.Spec PyProof.Rows L2 DL
abbrev sc2 (elt t0 i0 t1 i1 : Expr) (f0 f1 : List Expr) (sc : Scope) (pos : Pos) : Expr := .SetComp elt [⟨t0, i0, f0, 0⟩, ⟨t1, i1, f1, 0⟩] sc pos
section
variable {elt t0 i0 t1 i1 : Expr} {f0 f1 : List Expr} {sc : Scope} {pos : Pos} {it acc : Value} {env : PySem.Env}
theorem turnOut : compTurn (sc2 elt t0 i0 t1 i1 f0 f1 sc pos) 0 it acc env = (do
      standAt i0.pos
      match ← pyNext it with
      | none => pure (.done .next)
      | some v =>
        letOwnedTupleGo t0 it v
        assign t0 env v
        let mut go := true
        for c in f0 do
          if go then go ← isTrue c env (eval c env)
        if go then
          let x ← eval i1 env
          standAt i1.pos
          let x ← foldedSetIterable i1 env x
          let _ ← runOwn (.compStart (sc2 elt t0 i0 t1 i1 f0 f1 sc pos) 1 (← holding [x] (pyIter x)) acc env) env
        again (.compLoop (sc2 elt t0 i0 t1 i1 f0 f1 sc pos) 0 it acc env)) := by rfl
theorem turnIn : compTurn (sc2 elt t0 i0 t1 i1 f0 f1 sc pos) 1 it acc env = (do
      standAt i1.pos
      match ← pyNext it with
      | none => pure (.done .next)
      | some v =>
        letOwnedTupleGo t1 it v
        assign t1 env v
        let mut go := true
        for c in f1 do
          if go then go ← isTrue c env (eval c env)
        if go then
          (do let v ← eval elt env; standAt elt.pos; let _ ← call (.builtin "set.add") [acc, v])
        again (.compLoop (sc2 elt t0 i0 t1 i1 f0 f1 sc pos) 1 it acc env)) := by rfl
variable {P : Program} {w : World} {A : Around} {R : Result → Shared → Prop} {s : Shared}
/-- the tests of a clause -/
abbrev testsOf (fs : List Expr) (env : PySem.Env) : Sem Bool := forIn fs true fun c r => if r = true then do let ok ← isTrue c env (eval c env); pure (ForInStep.yield ok) else pure (ForInStep.yield r)
theorem loopOut (hs : ∀ x, foldedSetIterable i1 env x = pure x) (I : Nat → Shared → Prop)
    (step : ∀ n z, I n z → wpAny (model P w) A (pyNext it) (fun r z1 => match r with
      | none => R (.ok .next) z1
      | some v => wpAny (model P w) A (letOwnedTupleGo t0 it v) (fun _ z2 => wpAny (model P w) A (assign t0 env v) (fun _ z3 => wpAny (model P w) A (testsOf f0 env) (fun go z4 =>
            if go = true then wpAny (model P w) A (eval i1 env) (fun x z5 => wpAny (model P w) A (pyIter x) (fun jt z6 =>
              codeAny (model P w) A (.compStart (sc2 elt t0 i0 t1 i1 f0 f1 sc pos) 1 jt acc env) (fun r z7 => match r with
                | .ok _ => ∃ m, m < n ∧ I m z7
                | .error _ => False) z6) (notedBy (model P w) A env fun e z' => R (.error e) z') z5) (notedBy (model P w) A env fun e z' => R (.error e) z') z4
            else ∃ m, m < n ∧ I m z4) (notedBy (model P w) A env fun e z' => R (.error e) z') z3) (notedBy (model P w) A env fun e z' => R (.error e) z') z2) (notedBy (model P w) A env fun e z' => R (.error e) z') z1) (notedBy (model P w) A env fun e z' => R (.error e) z') z)
    (n : Nat) (h : I n s) : codeAny (model P w) A (.compLoop (sc2 elt t0 i0 t1 i1 f0 f1 sc pos) 0 it acc env) R s := by
  refine codeAny_loop rfl I (fun n z hI => ?_) n h
  show wpAny _ A ((compTurn (sc2 elt t0 i0 t1 i1 f0 f1 sc pos) 0 it acc env).onRaise (fun x => do noteFrame x env; theTreesLotGoes x)) _ _ z
  refine wpAny_noted ?_
  rw [turnOut]
  refine wpAny_bind (wpAny_standAt (wpAny_bind (wpAny_mono (step n z hI) (fun r z1 h1 => ?_) fun _ _ x => x)))
  cases r with
  | none => exact wpAny_pure h1
  | some v =>
    refine wpAny_bind (wpAny_mono h1 (fun _ z2 h2 => wpAny_bind (wpAny_mono h2 (fun _ z3 h3 => wpAny_bind (wpAny_mono h3 (fun go z4 h4 => ?_) fun _ _ x => x)) fun _ _ x => x)) fun _ _ x => x)
    cases go with
    | false => exact wpAny_pure ⟨rfl, h4⟩
    | true =>
      refine wpAny_bind (wpAny_mono h4 (fun x z5 h5 => ?_) fun _ _ x => x)
      refine wpAny_bind (wpAny_standAt (wpAny_bind (wpAny_of_eq (hs x) (wpAny_bind (wpAny_holding (wpAny_mono h5 (fun jt z6 h6 => ?_) fun _ _ x => x))))))
      refine wpAny_bind (wpAny_runOwn ?_)
      rw [Around.mark_none]
      refine codeAny_mono h6 fun r z7 hr => ?_
      cases r with
      | ok f => first | exact wpAny_pure ⟨rfl, hr⟩ | exact wpAny_bind (wpAny_pure (wpAny_pure ⟨rfl, hr⟩))
      | error e => exact hr.elim
theorem loopIn (I : Nat → Shared → Prop)
    (step : ∀ n z, I n z → wpAny (model P w) A (pyNext it) (fun r z1 => match r with
      | none => R (.ok .next) z1
      | some v => wpAny (model P w) A (letOwnedTupleGo t1 it v) (fun _ z2 => wpAny (model P w) A (assign t1 env v) (fun _ z3 => wpAny (model P w) A (testsOf f1 env) (fun go z4 =>
            if go = true then wpAny (model P w) A (eval elt env) (fun x z5 => wpAny (model P w) A (call (.builtin "set.add") [acc, x]) (fun _ z6 => ∃ m, m < n ∧ I m z6) (notedBy (model P w) A env fun e z' => R (.error e) z') z5) (notedBy (model P w) A env fun e z' => R (.error e) z') z4
            else ∃ m, m < n ∧ I m z4) (notedBy (model P w) A env fun e z' => R (.error e) z') z3) (notedBy (model P w) A env fun e z' => R (.error e) z') z2) (notedBy (model P w) A env fun e z' => R (.error e) z') z1) (notedBy (model P w) A env fun e z' => R (.error e) z') z)
    (n : Nat) (h : I n s) : codeAny (model P w) A (.compLoop (sc2 elt t0 i0 t1 i1 f0 f1 sc pos) 1 it acc env) R s := by
  refine codeAny_loop rfl I (fun n z hI => ?_) n h
  show wpAny _ A ((compTurn (sc2 elt t0 i0 t1 i1 f0 f1 sc pos) 1 it acc env).onRaise (fun x => do noteFrame x env; theTreesLotGoes x)) _ _ z
  refine wpAny_noted ?_
  rw [turnIn]
  refine wpAny_bind (wpAny_standAt (wpAny_bind (wpAny_mono (step n z hI) (fun r z1 h1 => ?_) fun _ _ x => x)))
  cases r with
  | none => exact wpAny_pure h1
  | some v =>
    refine wpAny_bind (wpAny_mono h1 (fun _ z2 h2 => wpAny_bind (wpAny_mono h2 (fun _ z3 h3 => wpAny_bind (wpAny_mono h3 (fun go z4 h4 => ?_) fun _ _ x => x)) fun _ _ x => x)) fun _ _ x => x)
    cases go with
    | false => exact wpAny_pure ⟨rfl, h4⟩
    | true => exact wpAny_bind (wpAny_bind (wpAny_mono h4 (fun x z5 h5 => wpAny_bind (wpAny_standAt (wpAny_bind (wpAny_mono h5 (fun _ z6 h6 => wpAny_pure (wpAny_pure ⟨rfl, h6⟩)) fun _ _ x => x)))) fun _ _ x => x))
theorem startIn (h0 : codeAny (model P w) A (.compLoop (sc2 elt t0 i0 t1 i1 f0 f1 sc pos) 1 it acc env) R s)
    (h : wpAny (model P w) A (pyIter it) (fun jt z => codeAny (model P w) A (.compLoop (sc2 elt t0 i0 t1 i1 f0 f1 sc pos) 1 jt acc env) R z) (notedBy (model P w) A env fun x z => R (.error x) z) s) : codeAny (model P w) A (.compStart (sc2 elt t0 i0 t1 i1 f0 f1 sc pos) 1 it acc env) R s := by
  refine codeAny_of_tree ?_
  show wpAny _ _ ((compStart (sc2 elt t0 i0 t1 i1 f0 f1 sc pos) 1 it acc env).onRaise (fun x => do noteFrame x env; standAt theWindowsPlace)) _ _ s
  refine wpAny_notedAt ?_
  unfold compStart
  show wpAny _ _ (ask >>= _) _ _ s
  refine wpAny_bind (wpAny_askSetting (wpAny_ite ?_))
  split
  · first | exact wpAny_bind (wpAny_pure (wpAny_pure (And.intro rfl h0))) | exact wpAny_pure (And.intro rfl h0)
  · first
      | exact wpAny_bind (wpAny_rule (wpAny_bind (wpAny_standAt (wpAny_bind (wpAny_mono h (fun jt z hz => wpAny_pure (And.intro rfl hz)) fun _ _ x => x)))))
      | (refine wpAny_bind (wpAny_rule ?_); show wpAny _ _ (standAt i1.pos >>= _) _ _ s; exact wpAny_bind (wpAny_standAt (wpAny_bind (wpAny_mono h (fun jt z hz => wpAny_pure (And.intro rfl hz)) fun _ _ x => x))))
end
section
variable {X : Cx} {pins : List (Addr × Obj)} {σ : L2.St} {H : Hp} {s : Shared}
/-- what the set holds behind the adding of k -/
def Added (k : Key) (M M' : List KMem) : Prop := (k ∈ M.map (·.2) → M' = M) ∧ (k ∉ M.map (·.2) → ∃ u, M'.Perm ((u, k) :: M))
theorem add_in {E : Value → Shared → Prop} {D : Addr} {M : List KMem} {k : Key} {z : Value} {Q : Value → Shared → Prop} (I : Inv X pins σ H s) (hD : H D = some (SetKO X.prog X.w D M)) (few : M.length + 1 < 4096) (r : RelV (kV k) z)
    (q : ∀ M' s', Added k M M' → Inv X pins σ (upd H D (SetKO X.prog X.w D M')) s' → Q .none s') : wpAny (model X.prog X.w) X.A (call (.builtin "set.add") [.ref D, z]) Q E s := by
  refine setAddCall (I.hok D _ hD).1 r few fun h' tk M' sb R c1 c2 => ?_
  have he : ∃ u, h'.get? D = some u := by
    obtain ⟨o, _, _, _, ho, _⟩ := R.ex
    exact ⟨o, ho⟩
  exact q M' _ ⟨c1, fun n => ⟨z, c2 n⟩⟩ (I.write (e := D) (t' := tk) (by rw [hD]; trivial) (.inl rfl) (fun b u hb hu => (sb.2 b hb).trans hu) he (setKO_ok R))
/-- {elt for tg in iter if .. for tg1 in iter1 if ..}: D is the new set -/
def tSc2 (P : Program) (w : World) (wi : TI) (g : TG) (tt : TT) (wi1 : TI) (g1 : TG) (tt1 : TT) (te : TE) (vs vs1 : List Nat) : TE := fun σ H Q => wi σ H fun J H1 => ∀ D, H1 D = none → ∃ W : Nat → Nat → Hp → Prop, (∃ m, W 0 m (upd H1 D (SetKO P w D []))) ∧ ∀ i m H, W i m H →
  (J.stop i H ∧ Q (.ref D) H) ∨ (J.go i H ∧ ∃ N : Hp → Prop, (∀ H', N H' → ∃ m', m' < m ∧ W (i + 1) m' H') ∧ ∀ x H', J.yld i H x H' → g x (wipe σ vs) H' fun σ2 H2 => wipe σ2 vs = wipe σ vs ∧ tt σ2 H2 fun b H3 =>
    if b = true then wi1 σ2 H3 fun J1 H4 => ∃ W1 : Nat → Nat → Hp → Prop, (∃ m, W1 0 m H4) ∧ ∀ j k H, W1 j k H →
      (J1.stop j H ∧ N H) ∨ (J1.go j H ∧ ∃ N1 : Hp → Prop, (∀ H', N1 H' → ∃ k', k' < k ∧ W1 (j + 1) k' H') ∧ ∀ x H', J1.yld j H x H' → g1 x (wipe σ2 vs1) H' fun σ3 H5 => wipe σ3 vs1 = wipe σ2 vs1 ∧ tt1 σ3 H5 fun b H6 =>
        if b = true then te σ3 H6 fun y H7 => ∃ (k : Key) (M : List KMem), y = kV k ∧ H7 D = some (SetKO P w D M) ∧ M.length + 1 < 4096 ∧ ∀ M', Added k M M' → N1 (upd H7 D (SetKO P w D M')) else N1 H6)
    else N H3)
end
end KS

/-! DO2: the block of a set comprehension of two clauses. -/
namespace KS
open PySem PySem.Spec PyProof.Rows L2 DL
section
variable {X : Cx}
theorem sc2_core {pins : List (Addr × Obj)} {s : Shared} {σ : L2.St} {H : Hp} {Q : VK} {elt tg iter tg1 iter1 : Expr} {ifs ifs1 : List Expr} {sc : Scope} {own : List (PySem.Str × Nat)} {vs1 : List Nat} {pos pos' : Pos} {wi wi1 : TI} {g g1 : TG} {tt tt1 : TT} {te : TE} {use : Option (Value → Sem Unit)} {Qf : Value → Shared → Prop}
    (hc : X.calm = true) (hN : X.N.Nodup) (I : Inv X pins σ H s) (hi : PI X tg iter wi) (ok : BlkOk X.N X.env.scope sc own) (hv : ∀ i ∈ vs1, i ∈ own.map (·.2))
    (hg : ∀ (s : Shared) (H : Hp) (C : Addr) (cl : List (PySem.Str × Addr)) (fp : List Addr), PG (X.blk s H sc (compEnvC sc cl C X.env) fp) tg g)
    (ht : ∀ (s : Shared) (H : Hp) (C : Addr) (cl : List (PySem.Str × Addr)) (fp : List Addr), PTs (X.blk s H sc (compEnvC sc cl C X.env) fp) ifs tt)
    (he : ∀ (s : Shared) (H : Hp) (C : Addr) (cl : List (PySem.Str × Addr)) (fp : List Addr), PE (X.blk s H sc (compEnvC sc cl C X.env) fp) elt te)
    (hi1 : ∀ (s : Shared) (H : Hp) (C : Addr) (cl : List (PySem.Str × Addr)) (fp : List Addr), PI (X.blk s H sc (compEnvC sc cl C X.env) fp) tg1 iter1 wi1)
    (hg1 : ∀ (s : Shared) (H : Hp) (C : Addr) (cl : List (PySem.Str × Addr)) (fp : List Addr), PG (X.blk s H sc (compEnvC sc cl C X.env) fp) tg1 g1)
    (ht1 : ∀ (s : Shared) (H : Hp) (C : Addr) (cl : List (PySem.Str × Addr)) (fp : List Addr), PTs (X.blk s H sc (compEnvC sc cl C X.env) fp) ifs1 tt1)
    (hs : ∀ x, foldedSetIterable iter X.env x = pure x) (hs1 : ∀ env x, foldedSetIterable iter1 env x = pure x) (h : tSc2 X.prog X.w wi g tt wi1 g1 tt1 te (own.map (·.2)) vs1 σ H Q)
    (back : ∀ D C s' m H', Inv X pins σ H' s' → Q (.ref D) H' → s'.heap.Ns C m → FpOk X pins H' C → compPost (model X.prog X.w) X.A X.xe use Qf (.ref D) C (.ok .next) s') :
    wpAny (model X.prog X.w) X.A (comprehension (sc2 elt tg iter tg1 iter1 ifs ifs1 sc pos) sc X.env pos' (PySem.newSet (.type "set")) false (eval iter X.env) use) Qf X.xe s := by
  have free : ∀ y ∈ sc.names, y.2 = .free → ∃ c, X.env.cells.lookup y.1 = some c := fun y hy e => (ok.free y hy e).elim (fun k => I.ok.has _ (.inl k)) fun k => I.ok.has _ (.inr k)
  refine wpAny_comprehension_free (use := use) rfl hs (closure_ok free) ok.kind (fun y hy e => by rw [ok.uniq y hy, e])
    (thn (hi.run pins s σ H _ I h) fun xv s1 hx => thn hx fun itv s2 ⟨it, fp, tn, J, H2, e, I2, T, st2, f2, q⟩ => ?_)
  subst e
  refine PpSet.newSet_ok (newEnv_comp ?_)
  generalize hD : s2.heap.objs.size = D
  have nD : H2 D = none := I2.hok.fresh (Nat.le_of_eq hD)
  obtain ⟨W, ⟨m0, w0⟩, turn⟩ := q D nD
  generalize hs3 : ({ s2 with heap := s2.heap.push (NS.newSet X.w) } : Shared) = s3
  have eh3 : s3.heap = s2.heap.push (NS.newSet X.w) := by rw [← hs3]
  have I3 : Inv X pins σ (upd H2 D (SetKO X.prog X.w D [])) s3 := by
    rw [← hs3]
    refine I2.laid (t' := s2.toks) (fun b o e => Heap.get?_push_of_some _ e) (Nat.le_of_eq hD) (setKO_ok (freshK ?_))
    rw [← hD]
    exact Heap.get?_push_size _ rfl
  have f3 : ∀ b ∈ fp, FpOk X pins (upd H2 D (SetKO X.prog X.w D [])) b ∧ b < s3.heap.objs.size := fun b hb => by
    obtain ⟨o, e, _⟩ := T.obj _ _ st2 b hb
    have lt := Heap.lt_size e
    refine ⟨⟨?_, (f2 b hb).2⟩, by rw [eh3, Heap.size_push]; exact Nat.lt_succ_of_lt lt⟩
    rw [upd_ne (by rw [← hD]; exact Nat.ne_of_lt lt)]
    exact (f2 b hb).1
  have st3 : tn 0 s3.heap := T.keep _ _ _ st2 fun b _ o e => by rw [eh3]; exact Heap.get?_push_of_some _ e
  have I4 := block_start I3 ok hN f3
  have pg := hg s3 (upd H2 D (SetKO X.prog X.w D [])) s3.heap.objs.size (cellsFrom (s3.heap.objs.size + 1) sc.names (cloFrom X.env.cells sc.names [])) fp
  have pt := ht s3 (upd H2 D (SetKO X.prog X.w D [])) s3.heap.objs.size (cellsFrom (s3.heap.objs.size + 1) sc.names (cloFrom X.env.cells sc.names [])) fp
  have pe := he s3 (upd H2 D (SetKO X.prog X.w D [])) s3.heap.objs.size (cellsFrom (s3.heap.objs.size + 1) sc.names (cloFrom X.env.cells sc.names [])) fp
  have pi := hi1 s3 (upd H2 D (SetKO X.prog X.w D [])) s3.heap.objs.size (cellsFrom (s3.heap.objs.size + 1) sc.names (cloFrom X.env.cells sc.names [])) fp
  have pg' := hg1 s3 (upd H2 D (SetKO X.prog X.w D [])) s3.heap.objs.size (cellsFrom (s3.heap.objs.size + 1) sc.names (cloFrom X.env.cells sc.names [])) fp
  have pt' := ht1 s3 (upd H2 D (SetKO X.prog X.w D [])) s3.heap.objs.size (cellsFrom (s3.heap.objs.size + 1) sc.names (cloFrom X.env.cells sc.names [])) fp
  show codeAny _ _ (.compStart (sc2 elt tg iter tg1 iter1 ifs ifs1 sc pos) 0 (.ref it) (.ref D) (compEnvC sc (cellsFrom (s3.heap.objs.size + 1) sc.names (cloFrom X.env.cells sc.names [])) s3.heap.objs.size X.env)) (compPost (model X.prog X.w) X.A X.xe use Qf (.ref D) s3.heap.objs.size) { s3 with heap := pushCells (s3.heap.push { cls := .type "dict", data := .dict #[] }) sc.names }
  have nfp : ∀ b ∈ fp, (upd H2 D (SetKO X.prog X.w D [])) b = none := fun b hb => (f3 b hb).1.1
  generalize hce : compEnvC sc (cellsFrom (s3.heap.objs.size + 1) sc.names (cloFrom X.env.cells sc.names [])) s3.heap.objs.size X.env = ce at I4 pg pt pe pi pg' pt' ⊢
  have cL : ce.locals = s3.heap.objs.size := by subst hce; rfl
  generalize upd H2 D (SetKO X.prog X.w D []) = H3 at I3 I4 pg pt pe pi pg' pt' w0 nfp f3
  generalize hs4 : ({ s3 with heap := pushCells (s3.heap.push { cls := .type "dict", data := .dict #[] }) sc.names } : Shared) = s4 at I4 ⊢
  have st4 : tn 0 s4.heap := T.keep _ _ _ st3 fun b _ o e => by rw [← hs4]; exact pushCells_keeps _ _ _ _ (Heap.get?_push_of_some _ e)
  have pinned0 : ∀ {σ' : L2.St} {H' : Hp} {z : Shared}, Inv (X.blk s3 H3 sc ce fp) [] σ' H' z → (∀ b ∈ fp, H' b = none) → ∀ b ∈ fp, FpOk (X.blk s3 H3 sc ce fp) [] H' b := fun {σ' H' z} J' hn b hb =>
    ⟨hn b hb, (J'.ok.exf b hb).1, J'.ok.exfs b hb, .inl hb, fun x c e => (J'.ok.exf b hb).2 x c e, fun p hp => absurd (show p ∈ ([] : List (Addr × Obj)) ++ [] from hp) (by simp)⟩
  have loop : codeAny (model X.prog X.w) X.A (.compLoop (sc2 elt tg iter tg1 iter1 ifs ifs1 sc pos) 0 (.ref it) (.ref D) ce) (compPost (model X.prog X.w) X.A X.xe use Qf (.ref D) s3.heap.objs.size) s4 := by
    refine loopOut (hs1 ce) (fun n z => ∃ i H', Inv (X.blk s3 H3 sc ce fp) [] (wipe σ (own.map (·.2))) H' z ∧ tn i z.heap ∧ (∀ b ∈ fp, H' b = none) ∧ W i n H') ?_ m0 ⟨0, H3, I4, st4, nfp, w0⟩
    rintro n s5 ⟨i, H5, I5, st5, n5, w5⟩
    rcases turn i n H5 w5 with ⟨stop, qq⟩ | ⟨go, N, hNx, step⟩
    · refine thnF (T.done (X.blk s3 H3 sc ce fp) rfl rfl rfl hc i [] s5 _ H5 (fun _ _ => False) I5 (pinned0 I5 n5) st5 stop) fun r s6 ⟨hr, I6⟩ => ?_
      subst hr
      have I7 : Inv X pins σ H5 s6 := I3.call' (ch := fp) I6.os I6.base I6.hok I6.bare fun b hb => ⟨(f3 b hb).1.2.2.2.1, (f3 b hb).1.2.1, (f3 b hb).1.2.2.2.2.1, (f3 b hb).1.2.2.2.2.2⟩
      obtain ⟨m, hm, _⟩ := I6.loc
      have hm2 : s6.heap.Ns ce.locals m := hm
      have nC : H5 ce.locals = none := I6.free
      rw [cL] at hm2 nC
      exact back D s3.heap.objs.size s6 m H5 I7 qq hm2 (I3.fpOk (Nat.le_refl _) nC)
    refine thnF (T.item (X.blk s3 H3 sc ce fp) rfl rfl rfl hc i [] s5 _ H5 (fun _ _ => False) I5 (pinned0 I5 n5) st5 go) fun r s6 ⟨u, hr, h6⟩ => ?_
    subst hr
    refine thnF h6 fun _ s7 ⟨x, H7, I7, r7, y7, st7, n7⟩ => ?_
    have P7 := I7.pinned (pinned0 I7 n7) (T.obj _ _ st7)
    refine thnF (pg.run _ s7 _ H7 x u _ P7 r7 (step x H7 y7)) fun _ s8 ⟨σ8, H8, I8, hw8, q8⟩ => ?_
    refine thnF (pt.run _ s8 σ8 H8 _ I8 q8) fun b s9 ⟨H9, I9, q9⟩ => ?_
    have again : ∀ {σ9 : L2.St} {z : Shared} {H' : Hp}, Inv (X.blk s3 H3 sc ce fp) ([] ++ pinsAt fp s7.heap) σ9 H' z → (wipe σ (own.map (·.2))).length = σ9.length → (∀ (j : Nat) v, (wipe σ (own.map (·.2)))[j]? = some (some v) → σ9[j]? = some (some v)) → N H' →
        ∃ m, m < n ∧ ∃ i H', Inv (X.blk s3 H3 sc ce fp) [] (wipe σ (own.map (·.2))) H' z ∧ tn i z.heap ∧ (∀ b ∈ fp, H' b = none) ∧ W i m H' := fun {σ9 z H'} J' hl hk nx => by
      obtain ⟨m', hm, w'⟩ := hNx H' nx
      have held : ∀ b ∈ fp, ∀ o, s7.heap.get? b = some o → z.heap.get? b = some o ∧ H' b = none := fun b hb o e =>
        have zz := J'.pin (b, o) (List.mem_append_right _ (List.mem_append_right _ (mem_pinsAt hb e)))
        ⟨zz.1, zz.2.1⟩
      refine ⟨m', hm, i + 1, H', (J'.unpinned (pins := [])).weak hl hk, T.keep _ _ _ st7 fun b hb o e => (held b hb o e).1, fun b hb => ?_, w'⟩
      obtain ⟨o, e, _⟩ := T.obj _ _ st7 b hb
      exact (held b hb o e).2
    have l8 : (wipe σ (own.map (·.2))).length = σ8.length := by rw [← hw8, wipe_length]
    have k8 : ∀ (j : Nat) v, (wipe σ (own.map (·.2)))[j]? = some (some v) → σ8[j]? = some (some v) ∧ (wipe σ8 vs1)[j]? = some (some v) := fun j v e => by
      rw [← hw8] at e
      obtain ⟨e1, e2⟩ := wipe_some e
      exact ⟨e1, by rw [wipe_out fun z => e2 (hv j z)]; exact e1⟩
    cases b with
    | false =>
      simp only [Bool.false_eq_true, if_false] at q9 ⊢
      exact again I9 l8 (fun j v e => (k8 j v e).1) q9
    | true =>
      simp only [if_true] at q9 ⊢
      refine thnF (pi.run _ s9 σ8 H9 _ I9 q9) fun xv s10 hx => thnF hx fun itv s11 ⟨it1, fp1, tn1, J1, H11, e1, I11, T1, st11, f11, W1, ⟨m1, w1⟩, turn1⟩ => ?_
      subst e1
      have pinned1 : ∀ {H' : Hp}, (∀ b ∈ fp1, H' b = none) → ∀ b ∈ fp1, FpOk (X.blk s3 H3 sc ce fp) ([] ++ pinsAt fp s7.heap) H' b := fun hn b hb => ⟨hn b hb, (f11 b hb).2⟩
      have inner : codeAny (model X.prog X.w) X.A (.compLoop (sc2 elt tg iter tg1 iter1 ifs ifs1 sc pos) 1 (.ref it1) (.ref D) ce)
          (fun r z => match r with
            | .ok _ => ∃ m, m < n ∧ ∃ i H', Inv (X.blk s3 H3 sc ce fp) [] (wipe σ (own.map (·.2))) H' z ∧ tn i z.heap ∧ (∀ b ∈ fp, H' b = none) ∧ W i m H'
            | .error _ => False) s11 := by
        refine loopIn (fun k z => ∃ j H', Inv (X.blk s3 H3 sc ce fp) ([] ++ pinsAt fp s7.heap) (wipe σ8 vs1) H' z ∧ tn1 j z.heap ∧ (∀ b ∈ fp1, H' b = none) ∧ W1 j k H') ?_ m1 ⟨0, H11, I11.weak (wipe_length _ _) (fun j v e => (wipe_some e).1), st11, fun b hb => (f11 b hb).1, w1⟩
        rintro k s12 ⟨j, H12, I12, st12, n12, w12⟩
        rcases turn1 j k H12 w12 with ⟨stop1, nx1⟩ | ⟨go1, N1, hNx1, step1⟩
        · refine thnF (T1.done (X.blk s3 H3 sc ce fp) rfl rfl rfl hc j _ s12 (wipe σ8 vs1) H12 (fun _ _ => False) I12 (pinned1 n12) st12 stop1) fun r s13 ⟨hr, I13⟩ => ?_
          subst hr
          exact again I13 (l8.trans (wipe_length σ8 vs1).symm) (fun j v e => (k8 j v e).2) nx1
        refine thnF (T1.item (X.blk s3 H3 sc ce fp) rfl rfl rfl hc j _ s12 (wipe σ8 vs1) H12 (fun _ _ => False) I12 (pinned1 n12) st12 go1) fun r s13 ⟨u1, hr, h13⟩ => ?_
        subst hr
        refine thnF h13 fun _ s14 ⟨x1, H14, I14, r14, y14, st14, n14⟩ => ?_
        have P14 := I14.pinned (pinned1 n14) (T1.obj _ _ st14)
        refine thnF (pg'.run _ s14 (wipe σ8 vs1) H14 x1 u1 _ P14 r14 (step1 x1 H14 y14)) fun _ s15 ⟨σ15, H15, I15, hw15, q15⟩ => ?_
        refine thnF (pt'.run _ s15 σ15 H15 _ I15 q15) fun b1 s16 ⟨H16, I16, q16⟩ => ?_
        have again1 : ∀ {z : Shared} {H' : Hp}, Inv (X.blk s3 H3 sc ce fp) (([] ++ pinsAt fp s7.heap) ++ pinsAt fp1 s14.heap) σ15 H' z → N1 H' →
            ∃ m, m < k ∧ ∃ j H', Inv (X.blk s3 H3 sc ce fp) ([] ++ pinsAt fp s7.heap) (wipe σ8 vs1) H' z ∧ tn1 j z.heap ∧ (∀ b ∈ fp1, H' b = none) ∧ W1 j m H' := fun {z H'} J' nx => by
          obtain ⟨m', hm, w'⟩ := hNx1 H' nx
          have held : ∀ b ∈ fp1, ∀ o, s14.heap.get? b = some o → z.heap.get? b = some o ∧ H' b = none := fun b hb o e =>
            have zz := J'.pin (b, o) (List.mem_append_right _ (List.mem_append_right _ (mem_pinsAt hb e)))
            ⟨zz.1, zz.2.1⟩
          refine ⟨m', hm, j + 1, H', J'.unpinned.weak (by rw [← hw15, wipe_length]) (fun j v e => by rw [← hw15] at e; exact (wipe_some e).1), T1.keep _ _ _ st14 fun b hb o e => (held b hb o e).1, fun b hb => ?_, w'⟩
          obtain ⟨o, e, _⟩ := T1.obj _ _ st14 b hb
          exact (held b hb o e).2
        cases b1 with
        | false =>
          simp only [Bool.false_eq_true, if_false] at q16 ⊢
          exact again1 I16 q16
        | true =>
          simp only [if_true] at q16 ⊢
          refine thnF (pe.run _ s16 σ15 H16 _ I16 q16) fun z s17 ⟨yv, H17, I17, r17, kk, M, ey, hD17, few, nx⟩ => ?_
          subst ey
          exact add_in (X := X.blk s3 H3 sc ce fp) I17 hD17 few r17 fun M' s18 ad I18 => again1 I18 (nx M' ad)
      exact startIn inner (T1.self X.A 0 _ _ _ st11 inner)
  exact PpSet.codeAny_compStart_set loop (T.self X.A 0 _ _ _ st4 loop)
theorem pe_sc2 {elt tg iter tg1 iter1 : Expr} {ifs ifs1 : List Expr} {sc : Scope} {own : List (PySem.Str × Nat)} {vs1 : List Nat} {pos : Pos} {wi wi1 : TI} {g g1 : TG} {tt tt1 : TT} {te : TE} (hc : X.calm = true) (hN : X.N.Nodup) (hi : PI X tg iter wi) (ok : BlkOk X.N X.env.scope sc own) (hv : ∀ i ∈ vs1, i ∈ own.map (·.2))
    (hg : ∀ (s : Shared) (H : Hp) (C : Addr) (cl : List (PySem.Str × Addr)) (fp : List Addr), PG (X.blk s H sc (compEnvC sc cl C X.env) fp) tg g)
    (ht : ∀ (s : Shared) (H : Hp) (C : Addr) (cl : List (PySem.Str × Addr)) (fp : List Addr), PTs (X.blk s H sc (compEnvC sc cl C X.env) fp) ifs tt)
    (he : ∀ (s : Shared) (H : Hp) (C : Addr) (cl : List (PySem.Str × Addr)) (fp : List Addr), PE (X.blk s H sc (compEnvC sc cl C X.env) fp) elt te)
    (hi1 : ∀ (s : Shared) (H : Hp) (C : Addr) (cl : List (PySem.Str × Addr)) (fp : List Addr), PI (X.blk s H sc (compEnvC sc cl C X.env) fp) tg1 iter1 wi1)
    (hg1 : ∀ (s : Shared) (H : Hp) (C : Addr) (cl : List (PySem.Str × Addr)) (fp : List Addr), PG (X.blk s H sc (compEnvC sc cl C X.env) fp) tg1 g1)
    (ht1 : ∀ (s : Shared) (H : Hp) (C : Addr) (cl : List (PySem.Str × Addr)) (fp : List Addr), PTs (X.blk s H sc (compEnvC sc cl C X.env) fp) ifs1 tt1)
    (hs : ∀ x, foldedSetIterable iter X.env x = pure x := by intro _; rfl) (hs1 : ∀ env x, foldedSetIterable iter1 env x = pure x := by intro _ _; rfl) :
    PE X (sc2 elt tg iter tg1 iter1 ifs ifs1 sc pos) (tSc2 X.prog X.w wi g tt wi1 g1 tt1 te (own.map (·.2)) vs1) := by
  refine ⟨fun pins s σ H Q I h => ?_⟩
  rw [PpSet.eval_SetComp]
  refine sc2_core hc hN I hi ok hv hg ht he hi1 hg1 ht1 hs hs1 h fun D C s' m H' I' q hn f => ⟨m, hn, fun h'' sb => ?_⟩
  obtain ⟨f0, f1, f2, f3, f4, f5⟩ := f
  exact ⟨.ref D, H', I'.turned (t' := s'.toks) (fun b o hb e => (sb.2 b hb).trans e) f0 f1 f3 f4 f5, rfl, q⟩
end
end KS

/-! DP: sorted(set(xs)) of keys, sorted({.. for .. for ..}), by value. -/
namespace DL
open PySem PySem.Spec PyProof.Rows L2 KS
/-- us holds what ks holds, each once -/
structure Once (ks us : List Key) : Prop where
  nd : us.Nodup
  mem : ∀ k, k ∈ us ↔ k ∈ ks
theorem alike_perm' {ks us : List Key} (h : ∀ k ∈ us, k ∈ ks) (al : AlikeK ks) : AlikeK us := fun a ha b hb => al a (h a ha) b (h b hb)
theorem map_sortK (us : List Key) : (us.mergeSort (PySem.W.dataLe false datK)).map wK = (us.map wK).mergeSort leW :=
  List.map_mergeSort (r := PySem.W.dataLe false datK) (s := leW) (f := wK) (l := us) fun x _ y _ => by
    cases x <;> cases y <;> rfl
theorem repL_wKs {K : Fg} {r : List Addr} {H : Hp} : ∀ ks : List Key, RepL K r H (ks.map kV) (ks.map wK)
  | [] => .nil
  | k :: ks => .cons (rep_wK k) (repL_wKs ks)
theorem repL_keys {K : Fg} {r : List Addr} {H : Hp} : ∀ {ks : List Key} {vs : List V}, RepL K r H vs (ks.map wK) → vs = ks.map kV
  | [], _, .nil => rfl
  | k :: ks, _, .cons p l => by
    rw [rep_key p (keyW_wK k), repL_keys l]
    rfl
/-! ### sorted(set(xs)) -/
def vSortSetK (xs : List W) (S : Sto) (Q : WK) : Prop := match xs with
  | [.ref i] => ∃ ks : List Key, S[i]? = some (.lst (ks.map wK)) ∧ ks.length < 64 ∧ AlikeK ks ∧ ∀ us, Once ks us → Q (.ref S.length) (S ++ [.lst ((us.map wK).mergeSort leW)])
  | _ => False
theorem sortSetK_sim {K : Fg} {P : Program} {w : World} {r : List Addr} {H : Hp} {S : Sto} {xs : List V} {ws : List W} {Q : WK} {Q0 : VK} (R : RelS K r H S) (l : RepL K r H xs ws) (d : vSortSetK ws S Q)
    (k : ∀ r' H' S' v w, Ext K r H r' H' → RelS K r' H' S' → Rep K r' H' v w → Q w S' → Q0 v H') : rSetK K P w xs H fun v H1 => rSortK K P w [v] H1 Q0 := by
  cases l with
  | nil => exact d.elim
  | cons p l =>
    cases l with
    | cons p' l' => cases p <;> exact d.elim
    | nil =>
      cases p <;> try exact d.elim
      rename_i a i h
      obtain ⟨ks, hi, few, al, q⟩ := d
      obtain ⟨vs, ha, lv⟩ := R.obj i a _ h hi
      have ev := repL_keys lv
      subst ev
      refine ⟨a, ks, rfl, .of ha, few, fun a2 M hn sub all nd fewM => ?_⟩
      have e0 : Ext K r H r (upd H a2 (SetKO P w a2 M)) := ext_new hn
      have mem : ∀ k, k ∈ M.map (·.2) ↔ k ∈ ks := fun k => ⟨fun h => by
        obtain ⟨m, hm, rfl⟩ := List.mem_map.mp h
        exact sub m hm, all k⟩
      refine ⟨a2, M, rfl, upd_same, alike_perm' (fun k hk => (mem k).mp hk) al, by omega, fun us p hp hnp => ?_⟩
      rw [← List.map_id' (l := us)] at hp
      have hp2 : us.Perm (M.map (·.2)) := by rwa [List.map_id'] at hp
      have rl : RepL K r (upd H a2 (SetKO P w a2 M)) ((us.mergeSort (PySem.W.dataLe false datK)).map kV) ((us.map wK).mergeSort leW) := by
        rw [← map_sortK]
        exact repL_wKs _
      exact k _ _ _ _ _ (e0.trans (ext_mem hnp)) (new_lst (rel_new (o := SetKO P w a2 M) R hn) hnp rl) (rep_mem (rel_new (o := SetKO P w a2 M) R hn)) (q us ⟨hp2.nodup_iff.mpr nd, fun k => hp2.mem_iff.trans (mem k)⟩)
section
variable {X : Cx} {e : Expr} {es : List Expr} {dA : DA} {pos pos2 p p2 : Pos}
theorem c_sortSetK (hc : X.calm = true) (hu : X.A.units + 80 < cLine) (hg : Gl X "sorted") (hm : X.mg "sorted" = none) (hg2 : Gl X "set") (hm2 : X.mg "set" = none) (ha : XA X (e :: es) dA)
    (he : starEach (e :: es) X.env = (false, eval e X.env) :: starEach es X.env := by rfl) (hpl : (backTo pos2 (starEach es X.env)).any (·.1) = false := by rfl)
    (he2 : starEach [.Call (.Name "set" p2) (e :: es) [] pos2] X.env = (false, eval (.Call (.Name "set" p2) (e :: es) [] pos2) X.env) :: starEach [] X.env := by rfl) (hpl2 : (backTo pos (starEach [] X.env)).any (·.1) = false := by rfl) :
    XE X (.Call (.Name "sorted" p) [.Call (.Name "set" p2) (e :: es) [] pos2] [] pos) (dCB vSortSetK dA) := by
  obtain ⟨ta, pa, sa⟩ := ha.ex
  have p1 := pe_callTy (p := p2) (pos := pos2) (cr_setK hc (by omega)) hg2 hm2 (by decide +kernel) pa (by decide) (by decide) he hpl
  refine ⟨_, pe_callB (p := p) (pos := pos) (cr_sortK hc hu) hg hm (by decide +kernel) (pa_cons p1 pa_nil he2) (by decide) (by decide) he2 hpl2, fun r H S s env Q Q0 R E d k => ?_⟩
  exact sa r H S s env _ _ R E d fun r1 H1 S1 vs ws e1 R1 l d1 => sortSetK_sim (P := X.prog) (w := X.w) R1 l d1 fun r2 H2 S2 v w e2 => k r2 H2 S2 v w (e1.trans e2)
end
/-! ### sorted({.. for .. for ..}) -/
theorem Kp.trans {K : Fg} {r r1 r2 : List Addr} {H H1 H2 : Hp} (a : Kp K r H r1 H1) (b : Kp K r1 H1 r2 H2) : Kp K r H r2 H2 :=
  ⟨fun i x h => b.pre i x (a.pre i x h), fun c xs h => b.tup c xs (a.tup c xs h), fun c o u h => b.frz c o u (a.frz c o u h)⟩
theorem RepE.mono' {K : Fg} {r r' : List Addr} {H H' : Hp} {s : L2.St} {env : Slots} (e : Kp K r H r' H') (h : RepE K r H s env) : RepE K r' H' s env :=
  ⟨h.1, fun i w q => by
    obtain ⟨v, a, b⟩ := h.2 i w q
    exact ⟨v, a, b.mono' e⟩⟩
def setW1 (g : DG) (dt : DT) (de : DE) (vs : List Nat) (still : Sto → Prop) (env : Slots) (N : List Key → Sto → Prop) : List W → List Key → Sto → Prop
  | [], acc, S => still S ∧ N acc S
  | x :: r, acc, S => still S ∧ g x (wipeW env vs) S fun env2 S2 => dt env2 S2 fun b S3 => if b = true then de env2 S3 fun y S4 => ∃ k, y = wK k ∧ acc.length < 4000 ∧ setW1 g dt de vs still env N r (acc ++ [k]) S4 else setW1 g dt de vs still env N r acc S3
def setW2 (g : DG) (dt : DT) (di1 : DI) (g1 : DG) (dt1 : DT) (de : DE) (vs vs1 : List Nat) (still : Sto → Prop) (env : Slots) (N : List Key → Sto → Prop) : List W → List Key → Sto → Prop
  | [], acc, S => still S ∧ N acc S
  | x :: r, acc, S => still S ∧ g x (wipeW env vs) S fun env2 S2 => dt env2 S2 fun b S3 => if b = true then di1 env2 S3 fun its1 still1 S4 => setW1 g1 dt1 de vs1 still1 env2 (setW2 g dt di1 g1 dt1 de vs vs1 still env N r) its1 acc S4
      else setW2 g dt di1 g1 dt1 de vs vs1 still env N r acc S3
def dSortSC2 (di : DI) (g : DG) (dt : DT) (di1 : DI) (g1 : DG) (dt1 : DT) (de : DE) (vs vs1 : List Nat) : DE := fun env S Q => di env S fun its still S1 =>
  setW2 g dt di1 g1 dt1 de vs vs1 still env (fun acc S2 => AlikeK acc ∧ ∀ us, Once acc us → Q (.ref S2.length) (S2 ++ [.lst ((us.map wK).mergeSort leW)])) its [] S1
/-- what the set holds is what has been met -/
structure Met (acc : List Key) (M : List KMem) : Prop where
  nd : (M.map (·.2)).Nodup
  mem : ∀ k, k ∈ M.map (·.2) ↔ k ∈ acc
  len : M.length ≤ acc.length
  few : acc.length ≤ 4000
theorem Met.add {acc : List Key} {M M' : List KMem} {k : Key} (h : Met acc M) (few : acc.length < 4000) (a : Added k M M') : Met (acc ++ [k]) M' := by
  have few2 : (acc ++ [k]).length ≤ 4000 := by rw [List.length_append]; exact few
  rcases Classical.em (k ∈ M.map (·.2)) with c | c
  · rw [a.1 c]
    refine ⟨h.nd, fun j => ?_, by rw [List.length_append]; have := h.len; omega, few2⟩
    rw [h.mem, List.mem_append, List.mem_singleton]
    refine ⟨.inl, fun o => o.elim id fun e => ?_⟩
    rw [e]
    exact (h.mem k).mp c
  · obtain ⟨u, p⟩ := a.2 c
    have p2 : (M'.map (·.2)).Perm (k :: M.map (·.2)) := p.map (·.2)
    refine ⟨p2.nodup_iff.mpr (List.nodup_cons.mpr ⟨c, h.nd⟩), fun j => ?_, by rw [p.length_eq, List.length_append]; exact Nat.succ_le_succ h.len, few2⟩
    rw [p2.mem_iff, List.mem_cons, h.mem, List.mem_append, List.mem_singleton]
    exact Or.comm
def canI (K : Fg) (d : DI) : TI := fun s H Q0 => ∃ (r : List Addr) (S : Sto) (env : Slots) (Q : List W → (Sto → Prop) → Sto → Prop), RelS K r H S ∧ RepE K r H s env ∧ d env S Q ∧ ∀ r' H' S' J its still, Ext K r H r' H' → RelS K r' H' S' → ItOk K J its still r' H' → Q its still S' → Q0 J H'
theorem canI_sim {K : Fg} {d : DI} : SimI K (canI K d) d := fun r H S s env Q Q0 R E h k => ⟨r, S, env, Q, R, E, h, k⟩
theorem XI.pi {X : Cx} {tg it : Expr} {d : DI} (h : XI X tg it d) : PI X tg it (canI X.K d) := by
  obtain ⟨t, p, s⟩ := h.ex
  exact ⟨fun pins st σ H R I ⟨r, S, env, Q, Rl, E, hd, k⟩ => p.run pins st σ H R I (s r H S σ env Q R Rl E hd k)⟩
theorem sim_sc2 {K : Fg} {P : Program} {w : World} {wi wi1 : TI} {tg tg1 : TG} {tt tt1 : TT} {te : TE} {di di1 : DI} {g g1 : DG} {dt dt1 : DT} {de : DE} {vs vs1 : List Nat} (si : SimI K wi di) (sg : SimG K tg g) (og : OwnG tg vs) (st : SimT K tt dt)
    (si1 : SimI K wi1 di1) (sg1 : SimG K tg1 g1) (og1 : OwnG tg1 vs1) (st1 : SimT K tt1 dt1) (se : Sim K te de) :
    Sim K (tCB (rSortK K P w) (tCons (tSc2 P w wi tg tt wi1 tg1 tt1 te vs vs1) tNil)) (dSortSC2 di g dt di1 g1 dt1 de vs vs1) := by
  intro r H S s env Q Q0 R E d k
  refine si r H S s env _ _ R E d fun r1 H1 S1 J its still e1 R1 ok d1 => ?_
  intro D hD
  have nD := R1.notin hD
  refine ⟨fun i m H' => i + m = its.length ∧ ∃ r' S' acc M, Ext K r1 H1 r' H' ∧ RelS K r' H' S' ∧ D ∉ r' ∧ H' D = some (SetKO P w D M) ∧ Met acc M ∧ setW2 g dt di1 g1 dt1 de vs vs1 still env (fun acc S2 => AlikeK acc ∧ ∀ us, Once acc us → Q (.ref S2.length) (S2 ++ [.lst ((us.map wK).mergeSort leW)])) (its.drop i) acc S',
    ⟨its.length, by omega, r1, S1, [], [], ext_new hD, rel_new R1 hD, nD, upd_same, ⟨List.nodup_nil, fun k => Iff.rfl, Nat.le_refl _, Nat.zero_le _⟩, d1⟩, ?_⟩
  rintro i m H' ⟨hm, r', S', acc, M, e', R', n', hl, met, d'⟩
  cases hx : its[i]? with
  | none =>
    have hle : its.length ≤ i := List.getElem?_eq_none_iff.mp hx
    rw [List.drop_of_length_le hle] at d'
    obtain ⟨hst, al, q⟩ := d'
    refine .inl ⟨ok.stop r' H' S' i e'.toKp R' hst hle, ?_⟩
    refine ⟨D, M, rfl, hl, alike_perm' (fun k hk => (met.mem k).mp hk) al, ?_, fun us p hp hnp => ?_⟩
    · have := met.len
      have := met.few
      omega
    · have rl : RepL K r' H' ((us.mergeSort (PySem.W.dataLe false datK)).map kV) ((us.map wK).mergeSort leW) := by
        rw [← map_sortK]
        exact repL_wKs _
      exact k _ _ _ _ _ ((e1.trans e').trans (ext_mem hnp)) (new_lst R' hnp rl) (rep_mem R') (q us ⟨hp.nodup_iff.mpr met.nd, fun k => hp.mem_iff.trans (met.mem k)⟩)
  | some x =>
    obtain ⟨hlt, ex⟩ := List.getElem?_eq_some_iff.mp hx
    rw [List.drop_eq_getElem_cons hlt, ex] at d'
    obtain ⟨hst, d'⟩ := d'
    obtain ⟨go, yl⟩ := ok.go r' H' S' i x e'.toKp R' hst hx
    generalize hN : setW2 g dt di1 g1 dt1 de vs vs1 still env (fun acc S2 => AlikeK acc ∧ ∀ us, Once acc us → Q (.ref S2.length) (S2 ++ [.lst ((us.map wK).mergeSort leW)])) (its.drop (i + 1)) = N at d'
    refine .inr ⟨go, fun H3 => ∃ r' S' acc M, Ext K r1 H1 r' H3 ∧ RelS K r' H3 S' ∧ D ∉ r' ∧ H3 D = some (SetKO P w D M) ∧ Met acc M ∧ N acc S', fun H3 h3 => ⟨m - 1, by omega, by omega, by rw [hN]; exact h3⟩, fun v H3 hy => ?_⟩
    obtain ⟨e3, R3, q3⟩ := yl v H3 hy
    have e13 := e'.trans e3
    obtain ⟨n3, hl3⟩ := e3.apart n' hl
    have E3 := (E.mono (e1.trans e13)).wipe vs
    refine og v (wipe s vs) H3 _ _ (wipe s vs) rfl (sg r' H3 S' (wipe s vs) (wipeW env vs) v x _ (fun s4 H4 => ∃ r4 S4 env4, Ext K r' H3 r4 H4 ∧ RelS K r4 H4 S4 ∧ RepE K r4 H4 s4 env4 ∧ dt env4 S4 fun b S5 => if b = true then di1 env4 S5 fun its1 still1 S6 => setW1 g1 dt1 de vs1 still1 env4 N its1 acc S6 else N acc S5) R3 E3 q3 d' fun r4 H4 S4 s4 env4 e4 R4 E4 d4 => ⟨r4, S4, env4, e4, R4, E4, d4⟩) fun s4 H4 hw h4 => ?_
    obtain ⟨r4, S4, env4, e4, R4, E4, d4⟩ := h4
    refine ⟨by rw [hw, wipe_wipe], ?_⟩
    refine st r4 H4 S4 s4 env4 _ _ R4 E4 d4 fun r5 H5 S5 b e5 R5 d5 => ?_
    have e15 := (e13.trans e4).trans e5
    obtain ⟨n5, hl5⟩ := (e4.trans e5).apart n3 hl3
    cases b with
    | false =>
      rw [if_neg Bool.false_ne_true] at d5 ⊢
      exact ⟨r5, S5, acc, M, e15, R5, n5, hl5, met, d5⟩
    | true =>
      rw [if_pos rfl] at d5 ⊢
      refine si1 r5 H5 S5 s4 env4 _ _ R5 (E4.mono e5) d5 fun r6 H6 S6 J1 its1 still1 e6 R6 ok1 d6 => ?_
      obtain ⟨n6, hl6⟩ := e6.apart n5 hl5
      have e16 := e15.trans e6
      have E6 := E4.mono (e5.trans e6)
      refine ⟨fun j k H' => j + k = its1.length ∧ ∃ r7 S7 acc M, Kp K r6 H6 r7 H' ∧ RelS K r7 H' S7 ∧ Ext K r1 H1 r7 H' ∧ D ∉ r7 ∧ H' D = some (SetKO P w D M) ∧ Met acc M ∧ setW1 g1 dt1 de vs1 still1 env4 N (its1.drop j) acc S7,
        ⟨its1.length, by omega, r6, S6, acc, M, Ext.refl.toKp, R6, e16, n6, hl6, met, d6⟩, ?_⟩
      rintro j k2 H7 ⟨hj, r7, S7, acc7, M7, e67, R7, e17, n7, hl7, met7, d7⟩
      cases hx1 : its1[j]? with
      | none =>
        have hle : its1.length ≤ j := List.getElem?_eq_none_iff.mp hx1
        rw [List.drop_of_length_le hle] at d7
        obtain ⟨hst1, dN⟩ := d7
        exact .inl ⟨ok1.stop r7 H7 S7 j e67 R7 hst1 hle, r7, S7, acc7, M7, e17, R7, n7, hl7, met7, dN⟩
      | some x1 =>
        obtain ⟨hlt1, ex1⟩ := List.getElem?_eq_some_iff.mp hx1
        rw [List.drop_eq_getElem_cons hlt1, ex1] at d7
        obtain ⟨hst1, d7⟩ := d7
        obtain ⟨go1, yl1⟩ := ok1.go r7 H7 S7 j x1 e67 R7 hst1 hx1
        refine .inr ⟨go1, fun H8 => ∃ r8 S8 acc M, Kp K r6 H6 r8 H8 ∧ RelS K r8 H8 S8 ∧ Ext K r1 H1 r8 H8 ∧ D ∉ r8 ∧ H8 D = some (SetKO P w D M) ∧ Met acc M ∧ setW1 g1 dt1 de vs1 still1 env4 N (its1.drop (j + 1)) acc S8, fun H8 h8 => ⟨k2 - 1, by omega, by omega, h8⟩, fun v1 H8 hy1 => ?_⟩
        obtain ⟨e78, R8, q8⟩ := yl1 v1 H8 hy1
        obtain ⟨n8, hl8⟩ := e78.apart n7 hl7
        have E8 := (E6.mono' (e67.trans e78.toKp)).wipe vs1
        refine og1 v1 (wipe s4 vs1) H8 _ _ (wipe s4 vs1) rfl (sg1 r7 H8 S7 (wipe s4 vs1) (wipeW env4 vs1) v1 x1 _ (fun s9 H9 => ∃ r9 S9 env9, Ext K r7 H8 r9 H9 ∧ RelS K r9 H9 S9 ∧ RepE K r9 H9 s9 env9 ∧ dt1 env9 S9 fun b Sa => if b = true then de env9 Sa fun y Sb => ∃ k, y = wK k ∧ acc7.length < 4000 ∧ setW1 g1 dt1 de vs1 still1 env4 N (its1.drop (j + 1)) (acc7 ++ [k]) Sb else setW1 g1 dt1 de vs1 still1 env4 N (its1.drop (j + 1)) acc7 Sa) R8 E8 q8 d7 fun r9 H9 S9 s9 env9 e9 R9 E9 d9 => ⟨r9, S9, env9, e9, R9, E9, d9⟩) fun s9 H9 hw9 h9 => ?_
        obtain ⟨r9, S9, env9, e9, R9, E9, d9⟩ := h9
        refine ⟨by rw [hw9, wipe_wipe], ?_⟩
        refine st1 r9 H9 S9 s9 env9 _ _ R9 E9 d9 fun ra Ha Sa b1 ea Ra da => ?_
        have e6a := ((e67.trans e78.toKp).trans e9.toKp).trans ea.toKp
        have e1a := ((e17.trans e78).trans e9).trans ea
        obtain ⟨na, hla⟩ := (e9.trans ea).apart n8 hl8
        cases b1 with
        | false =>
          rw [if_neg Bool.false_ne_true] at da ⊢
          exact ⟨ra, Sa, acc7, M7, e6a, Ra, e1a, na, hla, met7, da⟩
        | true =>
          rw [if_pos rfl] at da ⊢
          refine se ra Ha Sa s9 env9 _ _ Ra (E9.mono ea) da fun rb Hb Sb y wv eb Rb qb db => ?_
          obtain ⟨nb, hlb⟩ := eb.apart na hla
          obtain ⟨kk, rfl, few, db⟩ := db
          have hDn : H6 D ≠ none := by rw [hl6]; exact fun h => by cases h
          refine ⟨kk, M7, rep_key qb (keyW_wK kk), hlb, by have := met7.len; omega, fun M' ad => ⟨rb, Sb, acc7 ++ [kk], M', (e6a.trans eb.toKp).trans (Kp.hid hlb trivial), Rb.hid nb hlb trivial, (e1a.trans eb).hid hD hlb trivial, nb, upd_same, met7.add few ad, db⟩⟩
section
variable {X : Cx}
theorem xe_sortSC2 {p pos pos2 : Pos} {elt tg iter tg1 iter1 : Expr} {ifs ifs1 : List Expr} {scope : Scope} {di di1 : DI} {t t1 : TG} {g g1 : DG} {dt dt1 : DT} {de : DE} (own : List (Str × Nat)) (vs1 : List Nat) (hc : X.calm = true) (hu : X.A.units + 80 < cLine) (hgl : Gl X "sorted") (hm : X.mg "sorted" = none)
    (hN : X.N.Nodup) (hi : XI X tg iter di) (ok : BlkOk X.N X.env.scope scope own) (hv : ∀ i ∈ vs1, i ∈ own.map (·.2))
    (hg : ∀ (s : Shared) (H : Hp) (C : Addr) (cl : List (Str × Addr)) (fp : List Addr), XCG (X.blk s H scope (compEnvC scope cl C X.env) fp) (own.map (·.2)) tg t g)
    (ht : ∀ (s : Shared) (H : Hp) (C : Addr) (cl : List (Str × Addr)) (fp : List Addr), XTs (X.blk s H scope (compEnvC scope cl C X.env) fp) ifs dt)
    (hi1 : ∀ (s : Shared) (H : Hp) (C : Addr) (cl : List (Str × Addr)) (fp : List Addr), XI (X.blk s H scope (compEnvC scope cl C X.env) fp) tg1 iter1 di1)
    (hg1 : ∀ (s : Shared) (H : Hp) (C : Addr) (cl : List (Str × Addr)) (fp : List Addr), XCG (X.blk s H scope (compEnvC scope cl C X.env) fp) vs1 tg1 t1 g1)
    (ht1 : ∀ (s : Shared) (H : Hp) (C : Addr) (cl : List (Str × Addr)) (fp : List Addr), XTs (X.blk s H scope (compEnvC scope cl C X.env) fp) ifs1 dt1)
    (he : ∀ (s : Shared) (H : Hp) (C : Addr) (cl : List (Str × Addr)) (fp : List Addr), XE (X.blk s H scope (compEnvC scope cl C X.env) fp) elt de)
    (hs : ∀ x, foldedSetIterable iter X.env x = pure x := by intro _; rfl) (hs1 : ∀ env x, foldedSetIterable iter1 env x = pure x := by intro _ _; rfl)
    (he2 : starEach [Expr.SetComp elt [⟨tg, iter, ifs, 0⟩, ⟨tg1, iter1, ifs1, 0⟩] scope pos2] X.env = (false, eval (Expr.SetComp elt [⟨tg, iter, ifs, 0⟩, ⟨tg1, iter1, ifs1, 0⟩] scope pos2) X.env) :: starEach [] X.env := by rfl) :
    XE X (.Call (.Name "sorted" p) [.SetComp elt [⟨tg, iter, ifs, 0⟩, ⟨tg1, iter1, ifs1, 0⟩] scope pos2] [] pos) (dSortSC2 di g dt di1 g1 dt1 de (own.map (·.2)) vs1) := by
  obtain ⟨wi, pw, si⟩ := hi.ex
  have g0 := hg {} (fun _ => none) 0 [] []
  have g10 := hg1 {} (fun _ => none) 0 [] []
  have p1 := pe_sc2 (X := X) (vs1 := vs1) (tt := canT X.K dt) (te := canE X.K de) (tt1 := canT X.K dt1) (wi1 := canI X.K di1) (g := t) (g1 := t1) hc hN pw ok hv (fun s H C cl fp => (hg s H C cl fp).pg) (fun s H C cl fp => (ht s H C cl fp).pt) (fun s H C cl fp => (he s H C cl fp).pe) (fun s H C cl fp => (hi1 s H C cl fp).pi) (fun s H C cl fp => (hg1 s H C cl fp).pg) (fun s H C cl fp => (ht1 s H C cl fp).pt) hs hs1 (pos := pos2)
  exact ⟨_, pe_callB (p := p) (pos := pos) (cr_sortK hc hu) hgl hm (by decide +kernel) (pa_cons p1 pa_nil he2) (by decide) (by decide) he2 rfl, sim_sc2 si g0.sm g0.ow canT_sim canI_sim g10.sm g10.ow canT_sim canE_sim⟩
end
end DL

/-! DQ: dict comprehensions; bits; range of three; sorted by len. -/
namespace DL
open PySem PySem.Spec PyProof.Rows L2
/-! ### {k: v for .. in ..} -/
theorem kv_mono' {K : Fg} {r r' : List Addr} {H H' : Hp} (e : Kp K r H r' H') {vs : List (Key × V)} {ws : List (Key × W)} (l : RelKV K r H vs ws) : RelKV K r' H' vs ws := ⟨l.1, l.2.mono' e⟩
theorem join_dct {K : Fg} {r : List Addr} {H : Hp} {S : Sto} (R : RelS K r H S) {D : Addr} {xs : List (Key × V)} {ws : List (Key × W)} (n : D ∉ r) (h : H D = some (.dK xs)) (l : RelKV K r H xs ws) : RelS K (r ++ [D]) H (S ++ [.dk ws]) := by
  refine ⟨by rw [List.length_append, List.length_append, R.len]; rfl, ?_, fun i a ob ha hs => ?_⟩
  · rw [List.nodup_append]
    refine ⟨R.nd, List.nodup_cons.mpr ⟨List.not_mem_nil, List.nodup_nil⟩, fun a ha b hb e => ?_⟩
    rw [List.mem_singleton.mp hb] at e
    exact n (e ▸ ha)
  · by_cases l' : i < r.length
    · rw [List.getElem?_append_left l'] at ha
      rw [List.getElem?_append_left (by rw [← R.len]; exact l')] at hs
      exact relO_mono' Kp.join rfl (R.obj i a ob ha hs)
    · rw [List.getElem?_append_right (Nat.le_of_not_lt l')] at ha
      rw [List.getElem?_append_right (by rw [← R.len]; exact Nat.le_of_not_lt l'), ← R.len] at hs
      cases e : i - r.length with
      | zero =>
        rw [e] at ha hs
        have e1 : D = a := Option.some.inj ha
        have e2 : O.dk ws = ob := Option.some.inj hs
        rw [← e1, ← e2]
        exact ⟨xs, h, kv_mono' Kp.join l⟩
      | succ n =>
        rw [e] at ha
        simp at ha
def dictW (g : DG) (tt : DT) (tk tv : DE) (vs : List Nat) (still : Sto → Prop) (env : Slots) (Q : WK) : List W → List (Key × W) → Sto → Prop
  | [], acc, S => still S ∧ Q (.ref S.length) (S ++ [.dk acc])
  | x :: r, acc, S => still S ∧ g x (wipeW env vs) S fun env2 S2 => tt env2 S2 fun b S3 => if b = true then tk env2 S3 fun y S4 => tv env2 S4 fun z S5 => ∃ k, y = wK k ∧ acc.length < sizeLine ∧ dictW g tt tk tv vs still env Q r (putW acc k z) S5
      else dictW g tt tk tv vs still env Q r acc S3
def dDictC (di : DI) (g : DG) (tt : DT) (tk tv : DE) (vs : List Nat) : DE := fun env S Q => di env S fun its still S1 => dictW g tt tk tv vs still env Q its [] S1
theorem sim_dictC {K : Fg} {wi : TI} {tg : TG} {tt : TT} {tk tv : TE} {di : DI} {g : DG} {dt : DT} {dk dv : DE} {vs : List Nat} (si : SimI K wi di) (sg : SimG K tg g) (og : OwnG tg vs) (st : SimT K tt dt) (sk : Sim K tk dk) (sv : Sim K tv dv) : Sim K (tDc wi tg tt tk tv vs) (dDictC di g dt dk dv vs) := by
  intro r H S s env Q Q0 R E d k
  refine si r H S s env _ _ R E d fun r1 H1 S1 J its still e1 R1 ok d1 => ?_
  intro Dl hD
  have nD := R1.notin hD
  refine ⟨fun i m H' => i + m = its.length ∧ ∃ r' S' acc accv, Ext K r1 H1 r' H' ∧ RelS K r' H' S' ∧ Dl ∉ r' ∧ H' Dl = some (.dK accv) ∧ RelKV K r' H' accv acc ∧ dictW g dt dk dv vs still env Q (its.drop i) acc S',
    ⟨its.length, by omega, r1, S1, [], [], ext_new hD, rel_new R1 hD, nD, upd_same, kv_nil, d1⟩, ?_⟩
  rintro i m H' ⟨hm, r', S', acc, accv, e', R', n', hl, ra, d'⟩
  cases hx : its[i]? with
  | none =>
    have hle : its.length ≤ i := List.getElem?_eq_none_iff.mp hx
    rw [List.drop_of_length_le hle] at d'
    obtain ⟨hst, d'⟩ := d'
    exact .inl ⟨ok.stop r' H' S' i e'.toKp R' hst hle, k _ H' _ _ _ (e1.trans (e'.join hD)) (join_dct R' n' hl ra) (rep_mem R') d'⟩
  | some x =>
    obtain ⟨hlt, ex⟩ := List.getElem?_eq_some_iff.mp hx
    rw [List.drop_eq_getElem_cons hlt, ex] at d'
    obtain ⟨hst, d'⟩ := d'
    obtain ⟨go, yl⟩ := ok.go r' H' S' i x e'.toKp R' hst hx
    refine .inr ⟨go, fun H3 => ∃ r' S' acc accv, Ext K r1 H1 r' H3 ∧ RelS K r' H3 S' ∧ Dl ∉ r' ∧ H3 Dl = some (.dK accv) ∧ RelKV K r' H3 accv acc ∧ dictW g dt dk dv vs still env Q (its.drop (i + 1)) acc S', fun H3 h3 => ⟨m - 1, by omega, by omega, h3⟩, fun v H3 hy => ?_⟩
    obtain ⟨e3, R3, q3⟩ := yl v H3 hy
    have e13 := e'.trans e3
    obtain ⟨n3, hl3⟩ := e3.apart n' hl
    have E3 := (E.mono (e1.trans e13)).wipe vs
    refine og v (wipe s vs) H3 _ _ (wipe s vs) rfl (sg r' H3 S' (wipe s vs) (wipeW env vs) v x _ (fun s4 H4 => ∃ r4 S4 env4, Ext K r' H3 r4 H4 ∧ RelS K r4 H4 S4 ∧ RepE K r4 H4 s4 env4 ∧ dt env4 S4 fun b S5 => if b = true then dk env4 S5 fun y S6 => dv env4 S6 fun z S7 => ∃ k, y = wK k ∧ acc.length < sizeLine ∧ dictW g dt dk dv vs still env Q (its.drop (i + 1)) (putW acc k z) S7 else dictW g dt dk dv vs still env Q (its.drop (i + 1)) acc S5) R3 E3 q3 d' fun r4 H4 S4 s4 env4 e4 R4 E4 d4 => ⟨r4, S4, env4, e4, R4, E4, d4⟩) fun s4 H4 hw h4 => ?_
    obtain ⟨r4, S4, env4, e4, R4, E4, d4⟩ := h4
    refine ⟨by rw [hw, wipe_wipe], ?_⟩
    refine st r4 H4 S4 s4 env4 _ _ R4 E4 d4 fun r5 H5 S5 b e5 R5 d5 => ?_
    have e15 := (e13.trans e4).trans e5
    have e35 := e4.trans e5
    obtain ⟨n5, hl5⟩ := e35.apart n3 hl3
    cases b with
    | true =>
      rw [if_pos rfl] at d5 ⊢
      refine sk r5 H5 S5 s4 env4 _ _ R5 (E4.mono e5) d5 fun r6 H6 S6 y w e6 R6 q6 d6 => ?_
      refine sv r6 H6 S6 s4 env4 _ _ R6 (E4.mono (e5.trans e6)) d6 fun r7 H7 S7 z wz e7 R7 q7 d7 => ?_
      obtain ⟨kk, rfl, few, d7⟩ := d7
      obtain ⟨n7, hl7⟩ := (e6.trans e7).apart n5 hl5
      have ra7 := kv_mono' (((e3.trans e35).trans e6).trans e7).toKp ra
      refine ⟨accv, kk, rep_key q6 (keyW_wK kk), hl7, by rw [kv_len ra7]; exact few, r7, S7, putW acc kk wz, putK accv kk z, ((e15.trans e6).trans e7).hid hD hl7 trivial, R7.hid n7 hl7 trivial, n7, upd_same, ?_, d7⟩
      exact kv_mono' (Kp.hid hl7 trivial) (kv_put q7 ra7)
    | false =>
      rw [if_neg Bool.false_ne_true] at d5 ⊢
      exact ⟨r5, S5, acc, accv, e15, R5, n5, hl5, kv_mono' (e3.trans e35).toKp ra, d5⟩
section
variable {X : Cx} {pos : Pos}
theorem xe_dictC {kx vx tg iter : Expr} {ifs : List Expr} {scope : Scope} {di : DI} {t : TG} {g : DG} {dt : DT} {dk dv : DE} (own : List (Str × Nat)) (hc : X.calm = true) (hN : X.N.Nodup) (hi : XI X tg iter di) (ok : BlkOk X.N X.env.scope scope own)
    (hg : ∀ (s : Shared) (H : Hp) (C : Addr) (cl : List (Str × Addr)) (fp : List Addr), XCG (X.blk s H scope (compEnvC scope cl C X.env) fp) (own.map (·.2)) tg t g)
    (ht : ∀ (s : Shared) (H : Hp) (C : Addr) (cl : List (Str × Addr)) (fp : List Addr), XTs (X.blk s H scope (compEnvC scope cl C X.env) fp) ifs dt)
    (hk : ∀ (s : Shared) (H : Hp) (C : Addr) (cl : List (Str × Addr)) (fp : List Addr), XE (X.blk s H scope (compEnvC scope cl C X.env) fp) kx dk)
    (he : ∀ (s : Shared) (H : Hp) (C : Addr) (cl : List (Str × Addr)) (fp : List Addr), XE (X.blk s H scope (compEnvC scope cl C X.env) fp) vx dv)
    (hs : ∀ x, foldedSetIterable iter X.env x = pure x := by intro _; rfl) : XE X (.DictComp kx vx [⟨tg, iter, ifs, 0⟩] scope pos) (dDictC di g dt dk dv (own.map (·.2))) := by
  obtain ⟨wi, p, si⟩ := hi.ex
  have g0 := hg {} (fun _ => none) 0 [] []
  exact ⟨_, pe_dc hc hN p ok (fun s H C cl fp => (hg s H C cl fp).pg) (fun s H C cl fp => (ht s H C cl fp).pt) (fun s H C cl fp => (hk s H C cl fp).pe) (fun s H C cl fp => (he s H C cl fp).pe) hs, sim_dictC si g0.sm g0.ow canT_sim canE_sim canE_sim⟩
end
/-! ### bits -/
abbrev vShl := vI2 CPow fun i j => .int (i * 2 ^ j.toNat)
abbrev vShr := vI2 (fun _ j => 0 ≤ j) fun i j => .int (i / 2 ^ j.toNat)
abbrev vBand := vI20 fun i j => .int (Builtin.bitAnd i j)
section
variable {X : Cx} {pos : Pos} {a b c : Expr} {da db : DE}
theorem x_shl (ha : XE X a da) (hb : XE X b db) : XE X (.BinOp a .LShift b pos) (dOp vShl da db) := xe_op op_shl (i2_sim fun _ _ _ _ => .int _) ha hb
theorem x_shr (ha : XE X a da) (hb : XE X b db) : XE X (.BinOp a .RShift b pos) (dOp vShr da db) := xe_op op_shr (i2_sim fun _ _ _ _ => .int _) ha hb
theorem x_band (ha : XE X a da) (hb : XE X b db) : XE X (.BinOp a .BitAnd b pos) (dOp vBand da db) := xe_op op_and (i20_sim fun _ _ _ _ => .int _) ha hb
end
/-! ### range of three -/
def rngC (lo c : Int) (n : Nat) : List W := (List.range n).map fun (i : Nat) => W.int (lo + (i : Int) * c)
theorem rngC_ok {K : Fg} {lo c : Int} {n : Nat} {r : List Addr} {H : Hp} : ItOk K (Itc lo c n) (rngC lo c n) (fun _ => True) r H := by
  refine ⟨fun r' H' S' i x e R _ hx => ?_, fun r' H' S' i e R _ hl => ?_⟩
  · unfold rngC at hx
    rw [List.getElem?_map] at hx
    by_cases hi : i < n
    · rw [List.getElem?_range hi] at hx
      have e2 : W.int (lo + (i : Int) * c) = x := Option.some.inj hx
      subst e2
      refine ⟨hi, fun v H3 hy => ?_⟩
      obtain ⟨rfl, rfl⟩ := hy
      exact ⟨.refl, R, .int _⟩
    · rw [List.getElem?_eq_none (by rw [List.length_range]; omega)] at hx
      cases hx
  · unfold rngC at hl
    rw [List.length_map, List.length_range] at hl
    exact hl
def iRng3 (da : DA) : DI := fun env S Q => da env S fun ws S1 => ∃ (i j c : Int) (n : Nat), ws = [.int i, .int j, .int c] ∧ RgC i j c n ∧ Q (rngC i c n) (fun _ => True) S1
section
variable {X : Cx} {pos : Pos}
theorem xi_range3 {tg a b c : Expr} {da : DA} {p : Pos} (hg : Gl X "range") (hm : X.mg "range" = none) (ha : XA X [a, b, c] da) (hs : starEach [a, b, c] X.env = (false, eval a X.env) :: starEach [b, c] X.env := by rfl) (hpl : (backTo pos (starEach [b, c] X.env)).any (·.1) = false := by rfl) : XI X tg (.Call (.Name "range" p) [a, b, c] [] pos) (iRng3 da) := by
  obtain ⟨t, p, s⟩ := ha.ex
  refine ⟨_, pi_range3 hg hm p hs hpl, fun r H S st env Q Q0 R E g k => ?_⟩
  refine s r H S st env _ _ R E g fun r1 H1 S1 vs ws e1 R1 q1 d1 => ?_
  obtain ⟨i, j, c, n, rfl, h1, q⟩ := d1
  cases q1 with
  | cons a b =>
    cases b with
    | cons b c =>
      cases c with
      | cons c d =>
        cases d
        cases a
        cases b
        cases c
        exact ⟨i, j, _, n, rfl, h1, k r1 H1 S1 _ _ _ e1 R1 rngC_ok q⟩
end
/-! ### sorted(l, key=len) -/
def rSortLen (K : Fg) (v : V) (H : Hp) (Q : VK) : Prop := ∃ (a : Addr) (bs : List (V × Nat)), v = .ref a ∧ SqL K H a (bs.map (·.1)) ∧ (∀ x ∈ bs, ∃ b ys, x.1 = .ref b ∧ SqT K H b ys ∧ ys.length = x.2) ∧
  ∀ p, H p = none → Q (.ref p) (upd H p (.lst ((bs.mergeSort fun x y => decide ((x.2 : Int) ≤ (y.2 : Int))).map (·.1))))
theorem each_valsN {bs : List (V × Nat)} : ∀ {us : List Value}, Vals (bs.map (·.1)) us → PySem.W.EachIs (fun (v : Value) (b : V × Nat) => RelV b.1 v) us bs := by
  induction bs with
  | nil => intro us h; cases h; exact .nil
  | cons b bs ih =>
    intro us h
    cases h with
    | cons p l => exact .cons p (ih l)
theorem vals_eachN {bs : List (V × Nat)} : ∀ {us : List Value}, PySem.W.EachIs (fun (v : Value) (b : V × Nat) => RelV b.1 v) us bs → Vals (bs.map (·.1)) us := fun h => by
  induction h with
  | nil => exact .nil
  | cons r t ih => exact .cons r ih
section
variable {X : Cx} {pos : Pos}
theorem sortLen_run {pins : List (Addr × Obj)} {σ : L2.St} {s : Shared} {H : Hp} {v : V} {u : Value} {Q : VK} (hu : X.A.units + 80 < cLine) (I : Inv X pins σ H s) (r : RelV v u) (h : rSortLen X.K v H Q) :
    wpAny (model X.prog X.w) X.A (call (.builtin "sorted") [u] [(Str.ofString "key", .builtin "len")]) (EP X pins σ Q) X.xe s := by
  obtain ⟨a, bs, rfl, hs, hlen, q⟩ := h
  cases r
  obtain ⟨its, rv, hl, hz⟩ := I.list hs
  have hb : bs.length ≤ sizeLine := by rw [List.length_map] at hz; exact hz
  refine PySem.W.sorted_key_data (R := fun (v : Value) (b : V × Nat) => RelV b.1 v) (bs := bs) (fun x : V × Nat => PyData.int (x.2 : Int)) hl.isList (each_valsN rv) (fun d hd d' hd' => ?_) (.inr fun d hd => ?_) hb (fun x hx => ?_) (PyProof.Rows.ksk_s1 _ _) (fun _ => PyProof.Rows.ksk_l1 _ _) (fun x => PyProof.Rows.ksk_t4 "len" x) (fun v x hv hx h tk kp => ?_) fun out c h' tk kp fr hD hol hout => ?_
  · obtain ⟨x, _, rfl⟩ := List.mem_map.mp hd
    obtain ⟨y, _, rfl⟩ := List.mem_map.mp hd'
    rfl
  · obtain ⟨x, _, rfl⟩ := List.mem_map.mp hd
    exact ⟨(fun e => by cases e), (fun xs e => by cases e)⟩
  · have e : (PyData.int (x.2 : Int)).depth = 0 := rfl
    omega
  · obtain ⟨b, ys, e1, hq, e2⟩ := hlen x hx
    rw [e1] at hv
    cases hv
    obtain ⟨jts, rj, hj, hjz⟩ := I.tuple hq
    have hj2 : PyProof.Rows.IsTup h b jts.toArray := PyProof.Rows.IsTup.keeps hj kp
    have hn : jts.toArray.size = x.2 := by rw [List.size_toArray, ← rj.length]; exact e2
    refine PyProof.Rows.len_tuple (s := { s with heap := h, toks := tk }) hj2 ?_ ?_
    · rw [List.size_toArray, ← rj.length]
      rw [sizeLine_eq] at hjz
      omega
    · refine ⟨h, _, rfl, fun _ _ e => e, ?_⟩
      rw [hn]
      exact .int _ _
  · rw [PySem.W.dataLe_int (fun x : V × Nat => (x.2 : Int))] at hout
    have hv := vals_eachN hout
    refine ⟨.ref _, upd H (s.heap.objs.size + 1) (.lst ((bs.mergeSort fun x y => decide ((x.2 : Int) ≤ (y.2 : Int))).map (·.1))), I.laid (t' := tk) kp (Nat.le_succ _) ⟨?_, out, c, hv, hD⟩, rfl, q _ (I.hok.fresh (Nat.le_succ _))⟩
    rw [List.length_map, List.length_mergeSort]
    exact hb
def wlen : W → Nat
  | .tup ws => ws.length
  | _ => 0
def vSortLen (w : W) (S : Sto) (Q : WK) : Prop := match w with
  | .ref i => ∃ ws, S[i]? = some (.lst ws) ∧ (∀ x ∈ ws, ∃ us, x = .tup us) ∧ Q (.ref S.length) (S ++ [.lst (ws.mergeSort fun x y => decide ((wlen x : Int) ≤ (wlen y : Int)))])
  | _ => False
theorem sortLen_sim {K : Fg} : SimU K (rSortLen K) vSortLen := by
  intro r H S v w Q Q0 R p d k
  cases p <;> try exact d.elim
  rename_i a i hp
  obtain ⟨ws, hi, ht, q⟩ := d
  obtain ⟨xs, h1, l⟩ := R.obj i _ _ hp hi
  have hll : xs.length = ws.length := l.length
  have mem : ∀ c ∈ xs.zip ws, Rep K r H c.1 c.2 := fun c hc => by
    obtain ⟨n, hn, e⟩ := List.mem_iff_getElem.mp hc
    have hn2 : n < ws.length := by rw [List.length_zip] at hn; omega
    obtain ⟨u, hu, pu⟩ := l.get (List.getElem?_eq_getElem hn2)
    rw [List.getElem_zip] at e
    rw [← e]
    have hn1 : n < xs.length := by omega
    rw [List.getElem?_eq_getElem hn1] at hu
    rw [Option.some.inj hu]
    exact pu
  have fst : (xs.zip ws).map (·.1) = xs := by
    rw [List.map_fst_zip]
    omega
  have snd : (xs.zip ws).map (·.2) = ws := by
    rw [List.map_snd_zip]
    omega
  have reps : ∀ cs : List (V × W), (∀ c ∈ cs, Rep K r H c.1 c.2) → RepL K r H (cs.map (·.1)) (cs.map (·.2)) := by
    intro cs
    induction cs with
    | nil => intro _; exact .nil
    | cons c cs ih => exact fun h => .cons (h c List.mem_cons_self) (ih fun d hd => h d (List.mem_cons_of_mem _ hd))
  refine ⟨a, (xs.zip ws).map fun c => (c.1, wlen c.2), rfl, ?_, fun x hx => ?_, fun p hpn => ?_⟩
  · rw [List.map_map]
    show SqL K H a ((xs.zip ws).map (·.1))
    rw [fst]
    exact .of h1
  · obtain ⟨c, hc, rfl⟩ := List.mem_map.mp hx
    have hw : c.2 ∈ ws := by rw [← snd]; exact List.mem_map_of_mem hc
    obtain ⟨us, eu⟩ := ht _ hw
    have pc := mem c hc
    rw [eu] at pc
    obtain ⟨v1, w1⟩ := c
    dsimp only at pc eu ⊢
    subst eu
    cases pc with
    | tup h l2 => exact ⟨_, _, rfl, h, l2.length⟩
  · have e1 : (((xs.zip ws).map fun c => ((c.1, wlen c.2) : V × Nat)).mergeSort fun x y => decide ((x.2 : Int) ≤ (y.2 : Int))).map (·.1) = ((xs.zip ws).mergeSort fun x y => decide ((wlen x.2 : Int) ≤ (wlen y.2 : Int))).map (·.1) := by
      rw [← List.map_mergeSort (r := fun x y : V × W => decide ((wlen x.2 : Int) ≤ (wlen y.2 : Int))) (f := fun c : V × W => ((c.1, wlen c.2) : V × Nat)) (fun _ _ _ _ => rfl), List.map_map]
      rfl
    have e2 : ((xs.zip ws).mergeSort fun x y => decide ((wlen x.2 : Int) ≤ (wlen y.2 : Int))).map (·.2) = ws.mergeSort fun x y => decide ((wlen x : Int) ≤ (wlen y : Int)) := by
      rw [List.map_mergeSort (r := fun x y : V × W => decide ((wlen x.2 : Int) ≤ (wlen y.2 : Int))) (s := fun x y : W => decide ((wlen x : Int) ≤ (wlen y : Int))) (f := fun c : V × W => c.2) (fun _ _ _ _ => rfl), snd]
    rw [e1]
    have rl := reps ((xs.zip ws).mergeSort fun x y => decide ((wlen x.2 : Int) ≤ (wlen y.2 : Int))) fun c hc => mem c (List.mem_mergeSort.mp hc)
    rw [e2] at rl
    exact k _ _ _ _ _ (ext_mem hpn) (new_lst R hpn rl) (rep_mem R) q
def oneV (f : V → Hp → Prop) : List V → Hp → Prop := fun vs H => match vs with
  | [v] => f v H
  | _ => False
theorem oneV_inv {f : V → Hp → Prop} {vs : List V} {H : Hp} (h : oneV f vs H) : ∃ v, vs = [v] ∧ f v H := by
  match vs, h with
  | [v], h => exact ⟨v, rfl, h⟩
theorem xe_sortLen {e : Expr} {d : DE} {p p2 kpos : Pos} (hu : X.A.units + 80 < cLine) (hg : Gl X "sorted") (hm : X.mg "sorted" = none) (hg2 : Gl X "len") (hm2 : X.mg "len" = none) (ha : XE X e d)
    (he : starEach [e] X.env = (false, eval e X.env) :: starEach [] X.env := by rfl) (he2 : backTo pos (starEach [e] X.env) = (false, eval e X.env) :: backTo pos (starEach [] X.env) := by rfl) (hpl : (backTo pos (starEach [e] X.env)).any (·.1) = false := by rfl) :
    XE X (.Call (.Name "sorted" p) [e] [⟨some "key", .Name "len" p2, kpos⟩] pos) (dUn vSortLen d) := by
  obtain ⟨t, pe, se⟩ := ha.ex
  refine ⟨fun σ H Q => t σ H fun v H1 => rSortLen X.K v H1 Q, ⟨fun pins s σ H Q I h => ?_⟩, fun r H S s env Q Q0 R E d k => ?_⟩
  · refine wpAny_Call_Name_kw (ld_blt I hg hm (show bootBuiltins "sorted" = some (.builtin "sorted") by decide +kernel) ?_ (by decide) (by decide))
    refine PyProof.Rows.callWith_kw (thn ((pa_cons pe pa_nil he).run pos pins s σ H (oneV fun v H1 => rSortLen X.K v H1 Q) I h) fun us s1 ⟨vs, H1, I1, r1, q1⟩ => ?_) he2 hpl rfl rfl
    obtain ⟨v, rfl, q2⟩ := oneV_inv q1
    obtain ⟨u, rfl, ru⟩ := vals1 r1
    show wpAny _ _ (evalAll [do let v ← eval (.Name "len" p2) X.env; standAt pos; pure v]) _ _ s1
    refine wpAny_evalAll_cons (wpAny_bind (ld_blt I1 hg2 hm2 (show bootBuiltins "len" = some (.builtin "len") by decide +kernel) (wpAny_bind (wpAny_standAt (wpAny_pure ?_))) (by decide) (by decide)))
    refine wpAny_evalAll_nil ?_
    exact sortLen_run hu I1 ru q2
  · refine se r H S s env _ _ R E d fun r1 H1 S1 v w e1 R1 q1 d1 => ?_
    exact sortLen_sim r1 H1 S1 v w _ _ R1 q1 d1 fun r2 H2 S2 v w e2 => k r2 H2 S2 v w (e1.trans e2)
end
end DL

/-! DR: zip of lists and tuples, mixed too. -/
namespace DL
open PySem PySem.Spec PyProof.Rows L2 RZ
/-- an iterator of a tuple (true) or of a list (false) -/
def Bi (b : Bool) (h : Heap) (i l : Addr) (k : Nat) : Prop := match b with
  | true => h.IsTupleIter i l k
  | false => h.IsListIter i l k
def Sb (b : Bool) (h : Heap) (l : Addr) (xs : Array Value) : Prop := match b with
  | true => h.IsTuple l xs
  | false => h.IsList l xs
theorem Bi.at {b : Bool} {h h' : Heap} {i l : Addr} {k : Nat} (x : Bi b h i l k) (e : ∀ o, h.get? i = some o → h'.get? i = some o) : Bi b h' i l k := by
  cases b
  · exact Heap.IsListIter.at x e
  · exact Heap.IsTupleIter.at x e
theorem Sb.at {b : Bool} {h h' : Heap} {l : Addr} {xs : Array Value} (x : Sb b h l xs) (e : ∀ o, h.get? l = some o → h'.get? l = some o) : Sb b h' l xs := by
  cases b
  · exact Heap.IsList.at x e
  · exact Heap.IsTuple.at x e
theorem Bi.ext {b : Bool} {h h' : Heap} {i l c : Addr} {k : Nat} (x : Bi b h i l k) (e : Heap.ExtBut c h h') (n : i ≠ c) : Bi b h' i l k := x.at fun o q => e _ _ n q
theorem Sb.ext {b : Bool} {h h' : Heap} {l c : Addr} {xs : Array Value} (x : Sb b h l xs) (e : Heap.ExtBut c h h') (n : l ≠ c) : Sb b h' l xs := x.at fun o q => e _ _ n q
theorem Bi.obj {b : Bool} {h : Heap} {i l : Addr} {k : Nat} (x : Bi b h i l k) : ∃ o, h.get? i = some o ∧ ∀ v, o.data ≠ .cell v := by
  cases b
  · obtain ⟨o, e, _, d⟩ := (show h.IsListIter i l k from x)
    exact ⟨o, e, fun v q => by rw [d] at q; cases q⟩
  · obtain ⟨o, e, _, d⟩ := (show h.IsTupleIter i l k from x)
    exact ⟨o, e, fun v q => by rw [d] at q; cases q⟩
theorem Bi.lt {b : Bool} {h : Heap} {i l : Addr} {k : Nat} (x : Bi b h i l k) : i < h.objs.size := by
  obtain ⟨o, e, _⟩ := x.obj
  exact Heap.lt_size e
section
variable {prog : Program} {w : World} {A : Around} {E : Value → Shared → Prop} {s : Shared}
theorem next_item {b : Bool} {it l : Addr} {i : Nat} {items : Array Value} {x : Value} {Q : Value → Shared → Prop} (hit : Bi b s.heap it l i) (hl : Sb b s.heap l items) (hx : items[i]? = some x)
    (hQ : ∀ h', Bi b h' it l (i + 1) → Heap.SameBut it s.heap h' → Q x { s with heap := h' }) : wpAny (model prog w) A (Builtin.SmallTypes.nextOf (.ref it)) Q E s := by
  cases b
  · exact wpAny_nextOf_list_item hit hl hx hQ
  · exact RZ.nextOf_tuple_item hit hl hx hQ
theorem next_end {b : Bool} {it l : Addr} {i : Nat} {items : Array Value} {Q : Value → Shared → Prop} (hh : A.handled = none) (hit : Bi b s.heap it l i) (hl : Sb b s.heap l items) (hx : items[i]? = none)
    (hE : ∀ h' e, Heap.ExtBut it s.heap h' → (∃ o, h'.get? e = some o ∧ o.cls = .type "StopIteration") → E (.ref e) { s with heap := h' }) : wpAny (model prog w) A (Builtin.SmallTypes.nextOf (.ref it)) Q E s := by
  cases b
  · exact wpAny_nextOf_list_end hh hit hl (by rw [Array.getElem?_eq_none_iff] at hx; first | exact hx | simpa using hx) hE
  · exact RZ.nextOf_tuple_end hh hit hl hx hE
end
/-! ### a turn of zip -/
section
variable {prog : Program} {w : World} {A : Around} {E : Value → Shared → Prop} {s : Shared} {b1 b2 : Bool} {z TI TO i1 i2 l1 l2 : Addr} {k1 k2 : Nat} {xs ys : Array Value} {a b : Value}
theorem zipX_item {x y : Value} {Q : Value → Shared → Prop} (D : ZipApart z TI TO i1 i2 l1 l2)
    (hz : IsZip s.heap z TI TO .none) (hTI : IsPair s.heap TI (.ref i1) (.ref i2)) (hTO : IsPair s.heap TO a b) (h1 : Bi b1 s.heap i1 l1 k1) (h2 : Bi b2 s.heap i2 l2 k2) (hl1 : Sb b1 s.heap l1 xs) (hl2 : Sb b2 s.heap l2 ys) (hx : xs[k1]? = some x) (hy : ys[k2]? = some y)
    (hQ : ∀ h', IsZip h' z TI TO (rawInt s.heap.objs.size) → IsPair h' TO x y → Bi b1 h' i1 l1 (k1 + 1) → Bi b2 h' i2 l2 (k2 + 1) → IsPair h' s.heap.objs.size x y →
      (∀ c o, c ≠ z → c ≠ TO → c ≠ i1 → c ≠ i2 → s.heap.get? c = some o → h'.get? c = some o) → Q (.ref s.heap.objs.size) { s with heap := h' }) :
    wpAny (model prog w) A (Builtin.«zip.__next__» ⟨[.ref z], []⟩) (fun fin s' => ∃ v, fin = .done (.ret v) ∧ Q v s') E s := by
  show wpAny _ _ (field (.ref z) 2 >>= _) _ _ _
  refine wpAny_bind (wpAny_field hz rfl (x := .bool false) rfl ?_)
  show wpAny _ _ (field (.ref z) 3 >>= _) _ _ _
  refine wpAny_bind (wpAny_field hz rfl (x := .ref TI) rfl ?_)
  refine wpAny_bind (wpAny_seqItems hTI rfl ?_)
  show wpAny _ _ (Builtin.SmallTypes.ownedTupleIsFree (.ref z) >>= _) _ _ _
  refine wpAny_bind ?_
  unfold Builtin.SmallTypes.ownedTupleIsFree
  refine wpAny_bind (wpAny_field hz rfl (x := .none) rfl (wpAny_pure ?_))
  simp only [if_true]
  refine wpAny_bind (wpAny_rule ?_)
  refine wpAny_bind (wpAny_field hz rfl (x := .ref TO) rfl ?_)
  refine wpAny_bind (wpAny_setField_rec hz (by simp) fun g1 zz1 e1 => ?_)
  replace zz1 : IsZip g1 z TI TO .ellipsis := zz1
  refine wpAny_bind ?_
  simp only [List.zipIdx_cons, List.zipIdx_nil, List.forIn_cons, List.forIn_nil]
  refine wpAny_bind (wpAny_bind (wpAny_onRaise ?_))
  show wpAny _ _ (Builtin.SmallTypes.nextOf (.ref i1) >>= _) _ _ _
  refine wpAny_bind (next_item (h1.ext e1.extBut D.i1z) (hl1.ext e1.extBut D.l1z) hx fun g2 n1 e2 => wpAny_pure ?_)
  have hTO2 : IsPair g2 TO a b := e2.extBut _ _ D.TOi1 (e1.extBut _ _ D.TOz hTO)
  refine wpAny_bind (wpAny_seqItems hTO2 rfl ?_)
  refine wpAny_bind (wpAny_updateSeq_pair hTO2 fun g3 hTO3 e3 => ?_)
  replace hTO3 : IsPair g3 TO x b := hTO3
  refine wpAny_bind (wpAny_letGo (wpAny_pure ?_))
  refine wpAny_bind (wpAny_bind (wpAny_onRaise ?_))
  show wpAny _ _ (Builtin.SmallTypes.nextOf (.ref i2) >>= _) _ _ _
  refine wpAny_bind (next_item (((h2.ext e1.extBut D.i2z).ext e2.extBut D.i12.symm).ext e3.extBut D.TOi2.symm) (((hl2.ext e1.extBut D.l2z).ext e2.extBut D.l2i1).ext e3.extBut D.l2TO) hy fun g4 n2 e4 => wpAny_pure ?_)
  have hTO4 : IsPair g4 TO x b := e4.extBut _ _ D.TOi2 hTO3
  refine wpAny_bind (wpAny_seqItems hTO4 rfl ?_)
  refine wpAny_bind (wpAny_updateSeq_pair hTO4 fun g5 hTO5 e5 => ?_)
  replace hTO5 : IsPair g5 TO x y := hTO5
  refine wpAny_bind (wpAny_letGo (wpAny_pure (wpAny_pure ?_)))
  refine wpAny_bind (wpAny_seqItems hTO5 rfl ?_)
  refine wpAny_bind (wpAny_newTuple ?_)
  have hsz : g5.objs.size = s.heap.objs.size := by rw [e5.1, e4.1, e3.1, e2.1, e1.1]
  have zz5 : IsZip g5 z TI TO .ellipsis := e5.extBut _ _ D.TOz.symm (e4.extBut _ _ D.i2z.symm (e3.extBut _ _ D.TOz.symm (e2.extBut _ _ D.i1z.symm zz1)))
  have hk5 : ∀ c o, c ≠ z → c ≠ TO → c ≠ i1 → c ≠ i2 → s.heap.get? c = some o → g5.get? c = some o := fun c o c1 c2 c3 c4 e =>
    e5.extBut _ _ c2 (e4.extBut _ _ c4 (e3.extBut _ _ c2 (e2.extBut _ _ c3 (e1.extBut _ _ c1 e))))
  have m1 : Bi b1 g5 i1 l1 (k1 + 1) := ((n1.ext e3.extBut D.TOi1.symm).ext e4.extBut D.i12).ext e5.extBut D.TOi1.symm
  have m2 : Bi b2 g5 i2 l2 (k2 + 1) := n2.ext e5.extBut D.TOi2.symm
  have hzlt : z < g5.objs.size := Heap.lt_size zz5
  show wpAny _ _ (Builtin.SmallTypes.ownedTupleHandOut (.ref z) (.ref g5.objs.size) >>= _) _ _ _
  refine wpAny_bind ?_
  unfold Builtin.SmallTypes.ownedTupleHandOut
  have zz6 : IsZip (g5.push { cls := .type "tuple", data := .seq #[x, y] }) z TI TO .ellipsis := Heap.get?_push_of_some _ zz5
  refine wpAny_bind (wpAny_setField_rec zz6 (by simp) fun g7 zz7 e7 => ?_)
  replace zz7 : IsZip g7 z TI TO (rawInt g5.objs.size) := zz7
  refine wpAny_setField_rec zz7 (by simp) fun g8 zz8 e8 => ?_
  replace zz8 : IsZip g8 z TI TO (rawInt g5.objs.size) := zz8
  have up : ∀ c o, c ≠ z → g5.get? c = some o → g8.get? c = some o := fun c o c1 e => e8.extBut _ _ c1 (e7.extBut _ _ c1 (Heap.get?_push_of_some _ e))
  have T8 : IsPair g8 g5.objs.size x y := e8.extBut _ _ (Nat.ne_of_gt hzlt) (e7.extBut _ _ (Nat.ne_of_gt hzlt) (Heap.get?_push_size _ rfl))
  rw [hsz] at zz8 T8
  refine wpAny_pure ⟨_, rfl, ?_⟩
  show Q (.ref g5.objs.size) _
  rw [hsz]
  exact hQ g8 zz8 (up _ _ D.TOz hTO5) (m1.at fun o e => up _ o D.i1z e) (m2.at fun o e => up _ o D.i2z e) T8 fun c o c1 c2 c3 c4 e => up c o c1 (hk5 c o c1 c2 c3 c4 e)
theorem zipX_end {Q : PySem.Fin → Shared → Prop} (hh : A.handled = none) (D : ZipApart z TI TO i1 i2 l1 l2)
    (hz : IsZip s.heap z TI TO .none) (hTI : IsPair s.heap TI (.ref i1) (.ref i2)) (hTO : IsPair s.heap TO a b) (h1 : Bi b1 s.heap i1 l1 k1) (h2 : Bi b2 s.heap i2 l2 k2) (hl1 : Sb b1 s.heap l1 xs) (hl2 : Sb b2 s.heap l2 ys) (hend : xs[k1]? = none ∨ ys[k2]? = none)
    (hE : ∀ h' e, (∀ c o, c ≠ z → c ≠ TO → c ≠ i1 → c ≠ i2 → s.heap.get? c = some o → h'.get? c = some o) → (∃ o, h'.get? e = some o ∧ o.cls = .type "StopIteration") → E (.ref e) { s with heap := h' }) :
    wpAny (model prog w) A (Builtin.«zip.__next__» ⟨[.ref z], []⟩) Q E s := by
  show wpAny _ _ (field (.ref z) 2 >>= _) _ _ _
  refine wpAny_bind (wpAny_field hz rfl (x := .bool false) rfl ?_)
  show wpAny _ _ (field (.ref z) 3 >>= _) _ _ _
  refine wpAny_bind (wpAny_field hz rfl (x := .ref TI) rfl ?_)
  refine wpAny_bind (wpAny_seqItems hTI rfl ?_)
  show wpAny _ _ (Builtin.SmallTypes.ownedTupleIsFree (.ref z) >>= _) _ _ _
  refine wpAny_bind ?_
  unfold Builtin.SmallTypes.ownedTupleIsFree
  refine wpAny_bind (wpAny_field hz rfl (x := .none) rfl (wpAny_pure ?_))
  simp only [if_true]
  refine wpAny_bind (wpAny_rule ?_)
  refine wpAny_bind (wpAny_field hz rfl (x := .ref TO) rfl ?_)
  refine wpAny_bind (wpAny_setField_rec hz (by simp) fun g1 zz1 e1 => ?_)
  replace zz1 : IsZip g1 z TI TO .ellipsis := zz1
  refine wpAny_bind ?_
  simp only [List.zipIdx_cons, List.zipIdx_nil, List.forIn_cons, List.forIn_nil]
  refine wpAny_bind (wpAny_bind (wpAny_onRaise ?_))
  show wpAny _ _ (Builtin.SmallTypes.nextOf (.ref i1) >>= _) _ _ _
  cases hx : xs[k1]? with
  | none =>
    refine wpAny_bind (next_end hh (h1.ext e1.extBut D.i1z) (hl1.ext e1.extBut D.l1z) hx fun g2 e e2 he => ?_)
    obtain ⟨oe, hoe, hce⟩ := he
    have zz2 : IsZip g2 z TI TO .ellipsis := e2 _ _ D.i1z.symm zz1
    have hez : e ≠ z := fun q => by subst q; rw [zz2] at hoe; cases hoe; simp at hce
    refine wpAny_setField_rec zz2 (by simp) fun g3 _ e3 => hE g3 e (fun c o c1 _ c3 _ q => e3.extBut _ _ c1 (e2 _ _ c3 (e1.extBut _ _ c1 q))) ⟨oe, e3.extBut _ _ hez hoe, hce⟩
  | some x =>
    have hy : ys[k2]? = none := by rcases hend with h | h; rw [hx] at h; cases h; exact h
    refine wpAny_bind (next_item (h1.ext e1.extBut D.i1z) (hl1.ext e1.extBut D.l1z) hx fun g2 n1 e2 => wpAny_pure ?_)
    have hTO2 : IsPair g2 TO a b := e2.extBut _ _ D.TOi1 (e1.extBut _ _ D.TOz hTO)
    refine wpAny_bind (wpAny_seqItems hTO2 rfl ?_)
    refine wpAny_bind (wpAny_updateSeq_pair hTO2 fun g3 hTO3 e3 => ?_)
    refine wpAny_bind (wpAny_letGo (wpAny_pure ?_))
    refine wpAny_bind (wpAny_bind (wpAny_onRaise ?_))
    show wpAny _ _ (Builtin.SmallTypes.nextOf (.ref i2) >>= _) _ _ _
    refine wpAny_bind (next_end hh (((h2.ext e1.extBut D.i2z).ext e2.extBut D.i12.symm).ext e3.extBut D.TOi2.symm) (((hl2.ext e1.extBut D.l2z).ext e2.extBut D.l2i1).ext e3.extBut D.l2TO) hy fun g4 e e4 he => ?_)
    obtain ⟨oe, hoe, hce⟩ := he
    have zz4 : IsZip g4 z TI TO .ellipsis := e4 _ _ D.i2z.symm (e3.extBut _ _ D.TOz.symm (e2.extBut _ _ D.i1z.symm zz1))
    have hez : e ≠ z := fun q => by subst q; rw [zz4] at hoe; cases hoe; simp at hce
    refine wpAny_setField_rec zz4 (by simp) fun g5 _ e5 => hE g5 e (fun c o c1 c2 c3 c4 q => e5.extBut _ _ c1 (e4 _ _ c4 (e3.extBut _ _ c2 (e2.extBut _ _ c3 (e1.extBut _ _ c1 q))))) ⟨oe, e5.extBut _ _ hez hoe, hce⟩
theorem pyNext_zipX_item {x y : Value} {Q : Option Value → Shared → Prop} (D : ZipApart z TI TO i1 i2 l1 l2)
    (hz : IsZip s.heap z TI TO .none) (hTI : IsPair s.heap TI (.ref i1) (.ref i2)) (hTO : IsPair s.heap TO a b) (h1 : Bi b1 s.heap i1 l1 k1) (h2 : Bi b2 s.heap i2 l2 k2) (hl1 : Sb b1 s.heap l1 xs) (hl2 : Sb b2 s.heap l2 ys) (hx : xs[k1]? = some x) (hy : ys[k2]? = some y)
    (hQ : ∀ h', IsZip h' z TI TO (rawInt s.heap.objs.size) → IsPair h' TO x y → Bi b1 h' i1 l1 (k1 + 1) → Bi b2 h' i2 l2 (k2 + 1) → IsPair h' s.heap.objs.size x y →
      (∀ c o, c ≠ z → c ≠ TO → c ≠ i1 → c ≠ i2 → s.heap.get? c = some o → h'.get? c = some o) → Q (some (.ref s.heap.objs.size)) { s with heap := h' }) : wpAny (model prog w) A (pyNext (.ref z)) Q E s := by
  have hT : s.TypeIs (.ref z) "zip" := ⟨_, hz, rfl⟩
  unfold pyNext
  exact wpAny_bind (wpAny_attempt (wpAny_callSpecial?_slot (name := Str.ofString "__next__") hT F.slot_zip_next
    (wpAny_call_entry F.slot_zip_next hT F.entry_zip_next (zipX_item D hz hTI hTO h1 h2 hl1 hl2 hx hy fun h' a1 a2 a3 a4 a5 a7 => wpAny_pure (hQ h' a1 a2 a3 a4 a5 a7)) (F.args_zip_next_1 _))))
theorem pyNext_zipX_end {Q : Option Value → Shared → Prop} (hh : A.handled = none) (D : ZipApart z TI TO i1 i2 l1 l2)
    (hz : IsZip s.heap z TI TO .none) (hTI : IsPair s.heap TI (.ref i1) (.ref i2)) (hTO : IsPair s.heap TO a b) (h1 : Bi b1 s.heap i1 l1 k1) (h2 : Bi b2 s.heap i2 l2 k2) (hl1 : Sb b1 s.heap l1 xs) (hl2 : Sb b2 s.heap l2 ys) (hend : xs[k1]? = none ∨ ys[k2]? = none)
    (hQ : ∀ h', (∀ c o, c ≠ z → c ≠ TO → c ≠ i1 → c ≠ i2 → s.heap.get? c = some o → h'.get? c = some o) → Q none { s with heap := h' }) : wpAny (model prog w) A (pyNext (.ref z)) Q E s := by
  have hT : s.TypeIs (.ref z) "zip" := ⟨_, hz, rfl⟩
  unfold pyNext
  refine wpAny_bind (wpAny_attempt (wpAny_callSpecial?_slot (name := Str.ofString "__next__") hT F.slot_zip_next
    (wpAny_call_entry F.slot_zip_next hT F.entry_zip_next (zipX_end hh D hz hTI hTO h1 h2 hl1 hl2 hend fun h' e hk he => ?_) (F.args_zip_next_1 _))))
  obtain ⟨o, ho, hc⟩ := he
  refine wpAny_bind (wpAny_isInstance (T := "StopIteration") (b := true) ⟨o, ho, hc⟩ isSubtype_stop ?_)
  exact wpAny_pure (hQ _ hk)
end
/-! ### zip of a tuple and a list, made -/
abbrev zH1 (h : Heap) (l1 : Addr) : Heap := h.push { cls := .type "tuple_iterator", data := .fields #[.ref l1, .int 0 0] }
abbrev zH2 (h : Heap) (l1 l2 : Addr) : Heap := (zH1 h l1).push { cls := .type "list_iterator", data := .fields #[.ref l2, .int 0 0] }
abbrev zH3 (h : Heap) (l1 l2 : Addr) : Heap := (zH2 h l1 l2).push { cls := .type "tuple", data := .seq #[.ref h.objs.size, .ref (zH1 h l1).objs.size] }
abbrev zH4 (h : Heap) (l1 l2 : Addr) : Heap := (zH3 h l1 l2).push { cls := .type "tuple", data := .seq #[.none, .none] }
abbrev zH5 (h : Heap) (l1 l2 : Addr) : Heap := (zH4 h l1 l2).push { cls := .type "zip", data := .fields #[.none, .bool false, .bool false, .ref (zH2 h l1 l2).objs.size, .ref (zH3 h l1 l2).objs.size] }
theorem meets_zipTL (l1 l2 : Addr) (xs ys : Array Value) :
    Meets (Builtin.«zip.__new__» ⟨[.type "zip", .ref l1, .ref l2], []⟩) (fun _ R s => s.heap.IsTuple l1 xs ∧ s.heap.IsList l2 ys ∧
      R (.ok (.ret (.ref (zH4 s.heap l1 l2).objs.size))) { s with heap := zH5 s.heap l1 l2 }) :=
  .of_wp fun prog w A R s h => by
    obtain ⟨hp, g, d, tk, os⟩ := s; obtain ⟨hl1, hl2, h⟩ := h
    have hsub := sub_zip
    have hL1 : Heap.IsTuple (Shared.heap ⟨hp, g, d, tk, os⟩) l1 xs := hl1
    have hL2 : Heap.IsList (Shared.heap ⟨hp.push { cls := .type "tuple_iterator", data := .fields #[.ref l1, .int 0 0] }, g, d, tk, os⟩) l2 ys := Heap.IsList.push hl2 _
    wp_walk using wpAny_pyIter_tuple hL1, wpAny_pyIter_list hL2
    exact ⟨_, rfl, h⟩
section
variable {prog : Program} {w : World} {A : Around} {E : Value → Shared → Prop} {s : Shared}
theorem call_zipTL {l1 l2 : Addr} {xs ys : Array Value} {Q : Value → Shared → Prop} (hl1 : s.heap.IsTuple l1 xs) (hl2 : s.heap.IsList l2 ys)
    (h : ∀ h', IsZip h' (s.heap.objs.size + 4) (s.heap.objs.size + 2) (s.heap.objs.size + 3) .none → IsPair h' (s.heap.objs.size + 2) (.ref s.heap.objs.size) (.ref (s.heap.objs.size + 1)) →
      IsPair h' (s.heap.objs.size + 3) .none .none → h'.IsTupleIter s.heap.objs.size l1 0 → h'.IsListIter (s.heap.objs.size + 1) l2 0 →
      (∀ c o, s.heap.get? c = some o → h'.get? c = some o) → Q (.ref (s.heap.objs.size + 4)) { s with heap := h' }) :
    wpAny (model prog w) A (call (.type "zip") [.ref l1, .ref l2]) Q E s := by
  refine callType_new F.called_zip (by decide) (F.typeCall_zip_2 _ _) (F.newCall_zip_2 _ _) (fun obj => F.args_object_init_3 obj _ _) F.entry_zip_new
    (meets_zipTL l1 l2 xs ys) ⟨hl1, hl2, ?_⟩
  have z1 : (zH1 s.heap l1).objs.size = s.heap.objs.size + 1 := Heap.size_push ..
  have z2 : (zH2 s.heap l1 l2).objs.size = s.heap.objs.size + 2 := by rw [Heap.size_push, z1]
  have z3 : (zH3 s.heap l1 l2).objs.size = s.heap.objs.size + 3 := by rw [Heap.size_push, z2]
  have z4 : (zH4 s.heap l1 l2).objs.size = s.heap.objs.size + 4 := by rw [Heap.size_push, z3]
  have g5 : (zH5 s.heap l1 l2).get? (zH4 s.heap l1 l2).objs.size = some _ := Heap.get?_push_size _ rfl
  have g4 : (zH5 s.heap l1 l2).get? (zH3 s.heap l1 l2).objs.size = some _ := Heap.get?_push_of_some _ (Heap.get?_push_size _ rfl)
  have g3 : (zH5 s.heap l1 l2).get? (zH2 s.heap l1 l2).objs.size = some _ := Heap.get?_push_of_some _ (Heap.get?_push_of_some _ (Heap.get?_push_size _ rfl))
  have g2 : (zH5 s.heap l1 l2).get? (zH1 s.heap l1).objs.size = some _ := Heap.get?_push_of_some _ (Heap.get?_push_of_some _ (Heap.get?_push_of_some _ (Heap.get?_push_size _ rfl)))
  have g1 : (zH5 s.heap l1 l2).get? s.heap.objs.size = some _ := Heap.get?_push_of_some _ (Heap.get?_push_of_some _ (Heap.get?_push_of_some _ (Heap.get?_push_of_some _ (Heap.get?_push_size _ rfl))))
  show _ ∧ _
  rw [z2, z3, z4] at g5
  rw [z1, z2] at g3
  rw [z3] at g4
  rw [z1] at g2
  rw [z4]
  exact ⟨⟨_, g5, rfl⟩, h _ g5 g3 g4 ⟨_, g1, rfl, rfl⟩ ⟨_, g2, rfl, rfl⟩ fun c o x =>
    Heap.get?_push_of_some _ (Heap.get?_push_of_some _ (Heap.get?_push_of_some _ (Heap.get?_push_of_some _ (Heap.get?_push_of_some _ x))))⟩
end
/-! ### the turns of zip -/
def SqX (K : Fg) (b : Bool) (H : Hp) (a : Addr) (xs : List V) : Prop := match b with
  | true => SqT K H a xs
  | false => SqL K H a xs
theorem sqX_at {X : Cx} {pins : List (Addr × Obj)} {σ : L2.St} {H : Hp} {s : Shared} {b : Bool} {a : Addr} {xs : List V} (I : Inv X pins σ H s) (h : SqX X.K b H a xs) : ∃ its : List Value, Vals xs its ∧ Sb b s.heap a its.toArray := by
  cases b
  · obtain ⟨its, rv, p, _⟩ := I.list h
    exact ⟨its, rv, p.isList⟩
  · obtain ⟨its, rv, p, _⟩ := I.tuple h
    exact ⟨its, rv, show s.heap.IsTuple a its.toArray from p⟩
theorem sqX_inj {X : Cx} {pins : List (Addr × Obj)} {σ : L2.St} {H : Hp} {s : Shared} {b : Bool} {a : Addr} {xs ys : List V} (I : Inv X pins σ H s) (h : SqX X.K b H a xs) (h' : SqX X.K b H a ys) : xs = ys := by
  cases b
  · exact I.list_inj h h'
  · exact I.tuple_inj h h'
theorem sqX_lt {b : Bool} {h : Heap} {a : Addr} {its : Array Value} (x : Sb b h a its) : a < h.objs.size := by
  cases b
  · obtain ⟨o, e, _⟩ := (show h.IsList a its from x)
    exact Heap.lt_size e
  · obtain ⟨o, e, _⟩ := (show h.IsTuple a its from x)
    exact Heap.lt_size e
def ItzX (K : Fg) (b1 b2 : Bool) (a b : Addr) : It :=
  ⟨fun i H => ∃ (xs ys : List V) (x y : V), SqX K b1 H a xs ∧ SqX K b2 H b ys ∧ xs[i]? = some x ∧ ys[i]? = some y,
    fun i H v H' => ∃ T x y, v = .ref T ∧ H T = none ∧ H' = upd H T (.tup [x, y]) ∧ (∀ xs, SqX K b1 H a xs → xs[i]? = some x) ∧ ∀ ys, SqX K b2 H b ys → ys[i]? = some y,
    fun i H => ∃ xs ys : List V, SqX K b1 H a xs ∧ SqX K b2 H b ys ∧ (xs.length ≤ i ∨ ys.length ≤ i)⟩
theorem turn_zipX {P : Program} {w : World} {K : Fg} {b1 b2 : Bool} {elts : List Expr} {kk : Nat} {tpos : Pos} {a b z TI TO i1 i2 : Addr} (D : ZipApart z TI TO i1 i2 a b) :
    Turn P w K (.Tuple elts kk tpos) (ItzX K b1 b2 a b) [z, TI, TO, i1, i2] z (fun i h => IsZip h z TI TO .none ∧ IsPair h TI (.ref i1) (.ref i2) ∧ (∃ x y, IsPair h TO x y) ∧ Bi b1 h i1 a i ∧ Bi b2 h i2 b i) where
  mem := by simp
  obj := fun i h st c hc => by
    obtain ⟨hz, hTI, ⟨x, y, hTO⟩, h1, h2⟩ := st
    have e' : c = z ∨ c = TI ∨ c = TO ∨ c = i1 ∨ c = i2 := by simpa using hc
    rcases e' with q | q | q | q | q
    · rw [q]; exact ⟨_, hz, fun v q => nomatch q⟩
    · rw [q]; exact ⟨_, hTI, fun v q => nomatch q⟩
    · rw [q]; exact ⟨_, hTO, fun v q => nomatch q⟩
    · rw [q]; exact h1.obj
    · rw [q]; exact h2.obj
  keep := fun i h h' st k => by
    obtain ⟨hz, hTI, ⟨x, y, hTO⟩, h1, h2⟩ := st
    exact ⟨k z (by simp) _ hz, k TI (by simp) _ hTI, ⟨x, y, k TO (by simp) _ hTO⟩, h1.at fun o q => k i1 (by simp) o q, h2.at fun o q => k i2 (by simp) o q⟩
  item := by
    intro X hP hw hK hc i pins s σ H E I hf st hg
    subst hP hw hK
    obtain ⟨hz, hTI, ⟨x0, y0, hTO⟩, h1, h2⟩ := st
    obtain ⟨xs, ys, x, y, hqx, hqy, hx, hy⟩ := hg
    obtain ⟨its, rv, p⟩ := sqX_at I hqx
    obtain ⟨its2, rv2, p2⟩ := sqX_at I hqy
    obtain ⟨u, hu, ru⟩ := rv.get hx
    obtain ⟨u2, hu2, ru2⟩ := rv2.get hy
    have hzl : z < s.heap.objs.size := Heap.lt_size hz
    refine pyNext_zipX_item D hz hTI hTO h1 h2 p p2 (x := u) (y := u2) (by simpa using hu) (by simpa using hu2) fun h' z' TO' h1' h2' hT hk => ?_
    refine ⟨_, rfl, wpAny_letOwnedTupleGo_zip (s := { s with heap := h' }) z' fun h'' z'' sb => ?_⟩
    have hT2 : h''.get? s.heap.objs.size = some { cls := .type "tuple", data := .seq #[u, u2] } := (sb.2 _ (Nat.ne_of_gt hzl)).trans hT
    have new : ObjOk X.prog X.w (upd H s.heap.objs.size (.tup [x, y])) h'' s.heap.objs.size (.tup [x, y]) :=
      ⟨by show 2 ≤ sizeLine; decide, [u, u2], .cons ru (.cons ru2 .nil), ⟨_, hT2, rfl, _, rfl⟩⟩
    have I1 : Inv X pins σ (upd H s.heap.objs.size (.tup [x, y])) { s with heap := h'' } :=
      I.turnedNew (t' := s.toks) (ch := [z, TI, TO, i1, i2]) (fun c o hb q => (sb.2 c (fun q' => hb (by simp [q']))).trans (hk c o (fun q' => hb (by simp [q'])) (fun q' => hb (by simp [q'])) (fun q' => hb (by simp [q'])) (fun q' => hb (by simp [q'])) q)) hf (Nat.le_refl _) new
    refine ⟨.ref s.heap.objs.size, _, I1, rfl, ⟨_, x, y, rfl, I.hok.fresh (Nat.le_refl _), rfl, fun l hl => by rw [sqX_inj I hl hqx]; exact hx, fun l hl => by rw [sqX_inj I hl hqy]; exact hy⟩, ⟨z'', ?_, ⟨u, u2, ?_⟩, ?_, ?_⟩, fun c hcm => ?_⟩
    · exact (sb.2 _ D.TIz).trans (hk _ _ D.TIz D.TITO D.TIi1 D.TIi2 hTI)
    · exact (sb.2 _ D.TOz).trans TO'
    · exact h1'.at fun o q => (sb.2 _ D.i1z).trans q
    · exact h2'.at fun o q => (sb.2 _ D.i2z).trans q
    · have hlt : c < s.heap.objs.size := by
        have e' : c = z ∨ c = TI ∨ c = TO ∨ c = i1 ∨ c = i2 := by simpa using hcm
        rcases e' with q | q | q | q | q
        · rw [q]; exact hzl
        · rw [q]; exact Heap.lt_size hTI
        · rw [q]; exact Heap.lt_size hTO
        · rw [q]; exact h1.lt
        · rw [q]; exact h2.lt
      rw [upd_ne (Nat.ne_of_lt hlt)]
      exact (hf c hcm).1
  done := by
    intro X hP hw hK hc i pins s σ H E I hf st hg
    subst hP hw hK
    obtain ⟨hz, hTI, ⟨x0, y0, hTO⟩, h1, h2⟩ := st
    obtain ⟨xs, ys, hqx, hqy, hend⟩ := hg
    obtain ⟨its, rv, p⟩ := sqX_at I hqx
    obtain ⟨its2, rv2, p2⟩ := sqX_at I hqy
    have n1 := rv.length
    have n2 := rv2.length
    have he : its.toArray[i]? = none ∨ its2.toArray[i]? = none := by
      rcases hend with q | q
      · exact .inl (by simp; omega)
      · exact .inr (by simp; omega)
    exact pyNext_zipX_end (I.ok.hd hc) D hz hTI hTO h1 h2 p p2 he fun h' hk => ⟨rfl, I.turnedL (t' := s.toks) (ch := [z, TI, TO, i1, i2]) (fun c o hb q =>
      hk c o (fun q' => hb (by simp [q'])) (fun q' => hb (by simp [q'])) (fun q' => hb (by simp [q'])) (fun q' => hb (by simp [q'])) q) hf⟩
  self := fun A i s Q E st h => wpAny_pyIter_zip st.1 h
/-- zip(e, e2): lists, tuples, a tuple and a list -/
def iZipX (K : Fg) (ta : TA) : TI := fun σ H R => ta σ H fun vs H1 => ∃ (a b : Addr) (b1 b2 : Bool) (xs ys : List V), vs = [.ref a, .ref b] ∧ (b1 = false → b2 = false) ∧ SqX K b1 H1 a xs ∧ SqX K b2 H1 b ys ∧ R (ItzX K b1 b2 a b) H1
theorem call_zipX {prog : Program} {w : World} {A : Around} {E : Value → Shared → Prop} {s : Shared} {b1 b2 : Bool} {l1 l2 : Addr} {xs ys : Array Value} {Q : Value → Shared → Prop} (hb : b1 = false → b2 = false) (hl1 : Sb b1 s.heap l1 xs) (hl2 : Sb b2 s.heap l2 ys)
    (h : ∀ h', IsZip h' (s.heap.objs.size + 4) (s.heap.objs.size + 2) (s.heap.objs.size + 3) .none → IsPair h' (s.heap.objs.size + 2) (.ref s.heap.objs.size) (.ref (s.heap.objs.size + 1)) →
      IsPair h' (s.heap.objs.size + 3) .none .none → Bi b1 h' s.heap.objs.size l1 0 → Bi b2 h' (s.heap.objs.size + 1) l2 0 →
      (∀ c o, s.heap.get? c = some o → h'.get? c = some o) → Q (.ref (s.heap.objs.size + 4)) { s with heap := h' }) :
    wpAny (model prog w) A (call (.type "zip") [.ref l1, .ref l2]) Q E s := by
  cases b1 <;> cases b2
  · exact call_zip_2 hl1 hl2 fun h' a1 a2 a3 a4 a5 _ a6 => h h' a1 a2 a3 a4 a5 a6
  · exact absurd (hb rfl) (by decide)
  · exact call_zipTL hl1 hl2 h
  · exact call_zipT hl1 hl2 fun h' a1 a2 a3 a4 a5 _ a6 => h h' a1 a2 a3 a4 a5 a6
theorem pi_zipX {X : Cx} {e e2 : Expr} {ta : TA} {p pos tpos : Pos} {elts : List Expr} {kk : Nat} (hg : Gl X "zip") (hm : X.mg "zip" = none) (ha : PA X [e, e2] ta)
    (hs : starEach [e, e2] X.env = (false, eval e X.env) :: starEach [e2] X.env := by rfl) (hpl : (backTo pos (starEach [e2] X.env)).any (·.1) = false := by rfl) :
    PI X (.Tuple elts kk tpos) (.Call (.Name "zip" p) [e, e2] [] pos) (iZipX X.K ta) := by
  refine ⟨fun pins s σ H R I h => ?_⟩
  refine Call_ (ld_blt I hg hm PyProof.Rows.boot_zip (PyProof.Rows.callWith_type1 (thn (ha.run pos pins s σ H _ I h) fun us s1 ⟨vs, H1, I1, r1, q1⟩ => ?_) hs hpl))
  obtain ⟨a, b, b1, b2, xs, ys, ex, hb, hqx, hqy, q⟩ := q1
  subst ex
  cases r1 with
  | cons r rr =>
    cases rr with
    | cons r' rr =>
      cases rr
      cases r
      cases r'
      obtain ⟨its, rv, p1⟩ := sqX_at I1 hqx
      obtain ⟨its2, rv2, p2⟩ := sqX_at I1 hqy
      refine call_zipX hb p1 p2 fun h' hz hTI hTO h1 h2 hk => wpAny_pyIter_zip hz ?_
      have I2 : Inv X pins σ H1 { s1 with heap := h' } := I1.kept (t' := s1.toks) hk
      refine ⟨s1.heap.objs.size + 4, [s1.heap.objs.size + 4, s1.heap.objs.size + 2, s1.heap.objs.size + 3, s1.heap.objs.size, s1.heap.objs.size + 1], _, _, H1, rfl, I2, turn_zipX (PySem.W.ktu_apart s1.heap.objs.size a b (sqX_lt p1) (sqX_lt p2)), ⟨hz, hTI, ⟨_, _, hTO⟩, h1, h2⟩, fun c hcm => ?_, q⟩
      have hle : s1.heap.objs.size ≤ c := by
        have e' : c = s1.heap.objs.size + 4 ∨ c = s1.heap.objs.size + 2 ∨ c = s1.heap.objs.size + 3 ∨ c = s1.heap.objs.size ∨ c = s1.heap.objs.size + 1 := by simpa using hcm
        rcases e' with q | q | q | q | q
        · rw [q]; exact Nat.le_add_right _ _
        · rw [q]; exact Nat.le_add_right _ _
        · rw [q]; exact Nat.le_add_right _ _
        · rw [q]; exact Nat.le_refl _
        · rw [q]; exact Nat.le_add_right _ _
      exact I1.fpOk hle (I1.hok.fresh hle)
/-! ### as values -/
def zipW (xs ys : List W) : List W := List.zipWith (fun a b => W.tup [a, b]) xs ys
def isTupW : W → Bool
  | .tup _ => true
  | _ => false
theorem seqX_cases {K : Fg} {r : List Addr} {H : Hp} {S : Sto} {v : V} {w : W} {Q : List W → (Sto → Prop) → Sto → Prop} (R : RelS K r H S) (p : Rep K r H v w) (h : vSeqI w S Q) :
    ∃ a, v = .ref a ∧ ∃ ws still, Q ws still S ∧ (∃ xs, SqX K (isTupW w) H a xs) ∧ ∀ r' H' S', Kp K r H r' H' → RelS K r' H' S' → still S' → ∃ xs, SqX K (isTupW w) H' a xs ∧ RepL K r' H' xs ws := by
  cases p with
  | @tup a xs ws q l => exact ⟨a, rfl, ws, _, h, ⟨xs, q⟩, fun r' H' S' e _ _ => ⟨xs, e.tup _ _ q, l.mono' e⟩⟩
  | @lit a xs ws q l => exact ⟨a, rfl, ws, _, h, ⟨_, q.1⟩, fun r' H' S' e _ _ => ⟨xs, (q.mono e).1, l.mono' e⟩⟩
  | @ref a i q =>
    obtain ⟨ws, hs, h⟩ := h
    obtain ⟨xs, h1, l⟩ := R.obj i a _ q hs
    refine ⟨a, rfl, ws, _, h, ⟨_, .of h1⟩, fun r' H' S' e R' st => ?_⟩
    obtain ⟨ys, h2, l2⟩ := R'.obj i a _ (e.pre _ _ q) st
    exact ⟨ys, .of h2, l2⟩
  | _ => exact h.elim
def iZip (da : DA) : DI := fun env S Q => da env S fun us S1 => match us with
  | [w1, w2] => (isTupW w1 = false → isTupW w2 = false) ∧ vSeqI w1 S1 fun xs st1 S2 => vSeqI w2 S2 fun ys st2 => Q (zipW xs ys) (fun S => st1 S ∧ st2 S)
  | _ => False
theorem zipW_get {xs ys : List W} {i : Nat} {x : W} (h : (zipW xs ys)[i]? = some x) : ∃ a b, xs[i]? = some a ∧ ys[i]? = some b ∧ x = .tup [a, b] := by
  unfold zipW at h
  rw [List.getElem?_zipWith] at h
  split at h
  · rename_i a b ha hb
    exact ⟨a, b, ha, hb, (Option.some.inj h).symm⟩
  · cases h
theorem zipX_ok {K : Fg} {r : List Addr} {H : Hp} {b1 b2 : Bool} {a1 a2 : Addr} {xs ys : List W} {st1 st2 : Sto → Prop} (f : ∀ r' H' S', Kp K r H r' H' → RelS K r' H' S' → st1 S' → ∃ us, SqX K b1 H' a1 us ∧ RepL K r' H' us xs)
    (g : ∀ r' H' S', Kp K r H r' H' → RelS K r' H' S' → st2 S' → ∃ us, SqX K b2 H' a2 us ∧ RepL K r' H' us ys) : ItOk K (ItzX K b1 b2 a1 a2) (zipW xs ys) (fun S => st1 S ∧ st2 S) r H := by
  refine ⟨fun r' H' S' i x e R st hx => ?_, fun r' H' S' i e R st hl => ?_⟩
  · obtain ⟨us, qu, lu⟩ := f r' H' S' e R st.1
    obtain ⟨vs, qv, lv⟩ := g r' H' S' e R st.2
    obtain ⟨a, b, ha, hb, rfl⟩ := zipW_get hx
    obtain ⟨u, hu, pu⟩ := lu.get ha
    obtain ⟨v, hv, pv⟩ := lv.get hb
    refine ⟨⟨us, vs, u, v, qu, qv, hu, hv⟩, fun v' H3 hy => ?_⟩
    obtain ⟨T, y, z, rfl, hT, rfl, g1, g2⟩ := hy
    have z1 := Option.some.inj ((g1 _ qu).symm.trans hu)
    have z2 := Option.some.inj ((g2 _ qv).symm.trans hv)
    subst z1 z2
    exact pair_ok R hT pu pv
  · obtain ⟨us, qu, lu⟩ := f r' H' S' e R st.1
    obtain ⟨vs, qv, lv⟩ := g r' H' S' e R st.2
    refine ⟨us, vs, qu, qv, ?_⟩
    rw [lu.length, lv.length]
    unfold zipW at hl
    rw [List.length_zipWith] at hl
    omega
theorem xi_zip {X : Cx} {e e2 : Expr} {da : DA} {p pos tpos : Pos} {elts : List Expr} {kk : Nat} (hg : Gl X "zip") (hm : X.mg "zip" = none) (ha : XA X [e, e2] da)
    (hs : starEach [e, e2] X.env = (false, eval e X.env) :: starEach [e2] X.env := by rfl) (hpl : (backTo pos (starEach [e2] X.env)).any (·.1) = false := by rfl) :
    XI X (.Tuple elts kk tpos) (.Call (.Name "zip" p) [e, e2] [] pos) (iZip da) := by
  obtain ⟨t, p, s⟩ := ha.ex
  refine ⟨_, pi_zipX hg hm p hs hpl, fun r H S st env Q Q0 R E g k => ?_⟩
  refine s r H S st env _ _ R E g fun r1 H1 S1 vs us e1 R1 q1 d1 => ?_
  cases q1 with
  | nil => exact d1.elim
  | cons a b =>
    cases b with
    | nil => exact d1.elim
    | cons b c =>
      cases c with
      | cons _ _ => exact d1.elim
      | nil =>
        obtain ⟨hb, d1⟩ := d1
        obtain ⟨a1, rfl, xs, st1, q1, ⟨us, hu⟩, f1⟩ := seqX_cases R1 a d1
        obtain ⟨a2, rfl, ys, st2, q2, ⟨vs, hv⟩, f2⟩ := seqX_cases R1 b q1
        exact ⟨a1, a2, _, _, us, vs, rfl, hb, hu, hv, k r1 H1 S1 _ _ _ e1 R1 (zipX_ok f1 f2) q2⟩
end DL

/-! DX: all of a list of ints; dict comprehensions over pairs. -/
namespace DL
open PySem PySem.Spec PyProof.Rows L2
theorem _root_.L2.Room.units80 {k : Nat} {A : Around} (r : Room k A) : A.units + 80 < cLine := by have := r.un; omega
theorem truth_ints {prog : Program} {w : World} {A : Around} {ns : List Int} {its : List Value} (e : IntsAre its ns) :
    TruthOf prog w A (fun i v => its.toArray[i]? = some v) (fun i => ns.getD i 0 != 0) := fun i v s Q E hv hq => by
  have hv' : its[i]? = some v := by simpa using hv
  have hi : i < ns.length := by
    have := e.length
    have h2 := (List.getElem?_eq_some_iff.mp hv').1
    omega
  obtain ⟨t, ht⟩ := e.get i ns[i] (List.getElem?_eq_getElem hi)
  rw [ht] at hv'
  obtain rfl := Option.some.inj hv'
  have hg : ns.getD i 0 = ns[i] := by rw [List.getD_eq_getElem?_getD, List.getElem?_eq_getElem hi] <;> rfl
  have hq' : Q (ns.getD i 0 != 0) s := hq
  rw [hg] at hq'
  exact P.truthy_int hq'
theorem allI_range : ∀ ns : List Int, (List.range ns.length).all (fun i => ns.getD i 0 != 0) = ns.all (· != 0)
  | [] => rfl
  | b :: bs => by
    rw [List.length_cons, List.range_succ_eq_map, List.all_cons, List.all_map, List.all_cons, ← allI_range bs]
    all_goals rfl
section
variable {X : Cx} {e : Expr} {es : List Expr} {dA : DA} {pos p : Pos}
def rAllI (K : Fg) : List V → Hp → VK → Prop := fun vs H Q => ∃ (a : Addr) (ns : List Int), vs = [V.ref a] ∧ SqL K H a (ns.map V.int) ∧ Q (.bl (ns.all (· != 0))) H
theorem cr_allI (hc : X.calm = true) : CallR X (.builtin "all") (rAllI X.K) := by
  intro pins s σ H vs us Q I r h
  obtain ⟨a, ns, rfl, hs, q⟩ := h
  obtain ⟨its, rv, hl, _⟩ := I.list hs
  rw [Vals.ref1 r]
  have hb := rv.ints
  refine call_all_walk (iter_any hl.isList fun s₂ e2 st hne => ?_)
  subst e2
  refine ⟨_, _, _, _, _, _, _, rfl, Walks.list (A := X.A.in1) (I.ok.hd hc) _ a hne its.toArray, st, truth_ints hb, fun h' tk hk => ?_⟩
  refine ⟨.bl _, H, I.kept fun b o eo => hk b o (fun hmem => ?_) (Heap.get?_push_of_some _ eo), ?_, q⟩
  · rcases List.mem_cons.mp hmem with e1 | hmem
    · exact absurd (e1 ▸ Heap.lt_size eo) (Nat.lt_irrefl _)
    · cases hmem
  · show Value.bool _ = Value.bool _
    rw [← allI_range, List.size_toArray, hb.length]
def vAllI (xs : List W) (S : Sto) (Q : WK) : Prop := match xs with
  | [.ref i] => ∃ bs : List Int, S[i]? = some (.lst (bs.map W.int)) ∧ Q (.bl (bs.all (· != 0))) S
  | _ => False
theorem allI_sim {K : Fg} : SimC K (rAllI K) vAllI := by
  intro r H S xs ws Q Q0 R l d k
  cases l with
  | nil => exact d.elim
  | cons p l =>
    cases l with
    | cons p' l' => cases p <;> exact d.elim
    | nil =>
      cases p <;> try exact d.elim
      rename_i a i h
      obtain ⟨bs, h0, q⟩ := d
      obtain ⟨xs, h3, l⟩ := R.obj i _ _ h h0
      have e := repL_ints l
      subst e
      exact ⟨a, bs, rfl, .of h3, k r H S _ _ .refl R (.bl _) q⟩
theorem c_allI (hc : X.calm = true) (hg : Gl X "all") (hm : X.mg "all" = none) (ha : XA X (e :: es) dA) (he : starEach (e :: es) X.env = (false, eval e X.env) :: starEach es X.env := by rfl) (hpl : (backTo pos (starEach es X.env)).any (·.1) = false := by rfl) : XE X (.Call (.Name "all" p) (e :: es) [] pos) (dCB vAllI dA) :=
  xe_callB (cr_allI hc) allI_sim hg hm (by decide +kernel) ha (by decide) (by decide) he hpl
theorem xe_dictCT {kx vx iter : Expr} {es : List Expr} {kt n : Nat} {tpos : Pos} {ifs : List Expr} {scope : Scope} {di : DI} {ts : TGs} {gs : DGs} {dt : DT} {dk dv : DE} (own : List (Str × Nat)) (hc : X.calm = true) (hN : X.N.Nodup) (hi : XI X (.Tuple es kt tpos) iter di) (ok : BlkOk X.N X.env.scope scope own)
    (hg : ∀ (s : Shared) (H : Hp) (C : Addr) (cl : List (Str × Addr)) (fp : List Addr), XCGs (X.blk s H scope (compEnvC scope cl C X.env) fp) (own.map (·.2)) es ts gs)
    (ht : ∀ (s : Shared) (H : Hp) (C : Addr) (cl : List (Str × Addr)) (fp : List Addr), XTs (X.blk s H scope (compEnvC scope cl C X.env) fp) ifs dt)
    (hk : ∀ (s : Shared) (H : Hp) (C : Addr) (cl : List (Str × Addr)) (fp : List Addr), XE (X.blk s H scope (compEnvC scope cl C X.env) fp) kx dk)
    (he : ∀ (s : Shared) (H : Hp) (C : Addr) (cl : List (Str × Addr)) (fp : List Addr), XE (X.blk s H scope (compEnvC scope cl C X.env) fp) vx dv)
    (hn : ∀ env, (assignEach es env).length = n := by intro _; rfl) (hst : ∀ env, (assignEach es env).findIdx? (·.1) = none := by intro _; rfl)
    (hs : ∀ x, foldedSetIterable iter X.env x = pure x := by intro _; rfl) : XE X (.DictComp kx vx [⟨.Tuple es kt tpos, iter, ifs, 0⟩] scope pos) (dDictC di (gTp n gs) dt dk dv (own.map (·.2))) :=
  xe_dictC (t := gTup X.K n ts) own hc hN hi ok (fun s H C cl fp => xcg_tup (X := X.blk s H scope (compEnvC scope cl C X.env) fp) hc (hg s H C cl fp) (hn _) (hst _)) ht hk he hs
end
end DL

/-! DY: tuples known to their last field: made, walked, turned into a dict. -/
namespace DL
open PySem PySem.Spec PyProof.Rows L2
section
variable {X : Cx} {e : Expr} {es : List Expr} {dA : DA} {pos p : Pos}
/-! ### tuple(l) -/
def rTupF (K : Fg) : List V → Hp → VK → Prop := fun xs H Q => ∃ p ys, xs = [.ref p] ∧ SqL K H p ys ∧ ∀ (l : Addr) (o : Obj), H l = none → o.dict = none → Q (.ref l) (upd H l (.frz o (.tup ys)))
theorem cr_tupF : CallR X (.type "tuple") (rTupF X.K) := by
  intro pins s σ H xs us Q I r h
  obtain ⟨p, ys, rfl, hq, q⟩ := h
  obtain ⟨u, rfl, rx⟩ := vals1 r
  cases rx
  obtain ⟨its, r', pl, hz⟩ := I.list hq
  have hlen := r'.length
  refine call_tuple_list pl.isList (fun h' kp => ?_) (by simp only [List.size_toArray] <;> omega)
  have I1 : Inv X pins σ H { s with heap := h' } := I.kept (t' := s.toks) kp
  have I2 : Inv X pins σ (upd H h'.objs.size (.frz { cls := .type "tuple", data := .seq its.toArray } (.tup ys))) { s with heap := h'.push { cls := .type "tuple", data := .seq its.toArray } } :=
    I1.laid (t' := s.toks) (fun b o e => Heap.get?_push_of_some _ e) (Nat.le_refl _) (show ObjOk X.prog X.w _ _ _ (.frz _ (.tup ys)) from ⟨Heap.get?_push_size _ rfl, hz, its, r', IsTup.new _ _⟩)
  exact ⟨.ref h'.objs.size, _, I2, rfl, q _ _ (I1.hok.fresh (Nat.le_refl _)) rfl⟩
def vTupF (xs : List W) (S : Sto) (Q : WK) : Prop := match xs with
  | [.ref i] => ∃ ws, S[i]? = some (.lst ws) ∧ Q (.ref S.length) (S ++ [.ft ws])
  | _ => False
theorem new_ft {K : Fg} {r : List Addr} {H : Hp} {S : Sto} (R : RelS K r H S) {p : Addr} {o : Obj} {xs : List V} {ws : List W} (h : H p = none) (ho : o.dict = none) (l : RepL K r H xs ws) : RelS K (r ++ [p]) (upd H p (.frz o (.tup xs))) (S ++ [.ft ws]) :=
  rel_mem (o := .ft ws) R h ⟨o, xs, upd_same, ho, l.mono (ext_mem h)⟩
theorem tupF_sim {K : Fg} : SimC K (rTupF K) vTupF := by
  intro r H S xs ws Q Q0 R l d k
  cases l with
  | nil => exact d.elim
  | cons p l =>
    cases l with
    | cons p' l' => cases p <;> exact d.elim
    | nil =>
      cases p <;> try exact d.elim
      rename_i a i h
      obtain ⟨us, h0, q⟩ := d
      obtain ⟨vs, h3, lv⟩ := R.obj i _ _ h h0
      exact ⟨a, vs, rfl, .of h3, fun p o hp ho => k _ _ _ _ _ (ext_mem hp) (new_ft R hp ho lv) (rep_mem R) q⟩
theorem c_tupF (hg : Gl X "tuple") (hm : X.mg "tuple" = none) (ha : XA X (e :: es) dA) (he : starEach (e :: es) X.env = (false, eval e X.env) :: starEach es X.env := by rfl) (hpl : (backTo pos (starEach es X.env)).any (·.1) = false := by rfl) : XE X (.Call (.Name "tuple" p) (e :: es) [] pos) (dCB vTupF dA) :=
  xe_callTy cr_tupF tupF_sim hg hm (by decide +kernel) ha (by decide) (by decide) he hpl
/-! ### for .. in it -/
def vSeqF (w : W) (S : Sto) (Q : List W → (Sto → Prop) → Sto → Prop) : Prop := vSeqI w S Q ∨ ∃ i ws, w = .ref i ∧ S[i]? = some (.ft ws) ∧ Q ws (fun _ => True) S
def iSeqF (d : DE) : DI := fun env S Q => d env S fun w S1 => vSeqF w S1 Q
theorem seqF_at {K : Fg} {r : List Addr} {H : Hp} {S : Sto} {v : V} {w : W} {Q : List W → (Sto → Prop) → Sto → Prop} (R : RelS K r H S) (p : Rep K r H v w) (h : vSeqF w S Q) :
    ∃ a, v = .ref a ∧ ∃ its still, Q its still S ∧ (((∃ xs, SqL K H a xs) ∧ ItOk K (Itl K a) its still r H) ∨ ((∃ xs, SqT K H a xs) ∧ ItOk K (Itt K a) its still r H)) := by
  rcases h with h | ⟨i, ws, rfl, hs, q⟩
  · exact seqAt_ok R p h
  · cases p with
    | @ref a i hp =>
      obtain ⟨o, xs, h1, ho, l⟩ := R.obj i a _ hp hs
      have hq : SqT K H a xs := .inl (.inr ⟨o, h1⟩)
      refine ⟨a, rfl, ws, _, q, .inr ⟨⟨_, hq⟩, ⟨fun r' H' S' i x e' R' _ hx => ?_, fun r' H' S' i e' R' _ hl => ⟨_, e'.tup _ _ hq, by rw [l.length]; exact hl⟩⟩⟩⟩
      obtain ⟨u, hu, pu⟩ := l.get hx
      refine ⟨⟨_, _, e'.tup _ _ hq, hu⟩, fun v H3 hy => ?_⟩
      obtain ⟨rfl, f⟩ := hy
      have := Option.some.inj ((f _ (e'.tup _ _ hq)).symm.trans hu)
      subst this
      exact ⟨.refl, R', pu.mono' e'⟩
theorem xi_seqF {tg l : Expr} {d : DE} (h : XE X l d) : XI X tg l (iSeqF d) := by
  obtain ⟨t, p, s⟩ := h.ex
  refine ⟨_, pi_seq p, fun r H S st env Q Q0 R E g k => ?_⟩
  refine s r H S st env _ _ R E g fun r1 H1 S1 v w e1 R1 q1 d1 => ?_
  obtain ⟨a, rfl, its, still, q, h⟩ := seqF_at R1 q1 d1
  refine ⟨a, rfl, ?_⟩
  rcases h with ⟨hx, ok⟩ | ⟨hx, ok⟩
  · exact .inl ⟨hx, k r1 H1 S1 _ its still e1 R1 ok q⟩
  · exact .inr ⟨hx, k r1 H1 S1 _ its still e1 R1 ok q⟩
/-! ### dict(t) -/
theorem pairs_pv {pins : List (Addr × Obj)} {σ : L2.St} {H : Hp} {s : Shared} (I : Inv X pins σ H s) : ∀ {ps : List Addr} {kvs : List (Key × V)}, Paired (fun p kv => SqT X.K H p [kV kv.1, kv.2]) ps kvs →
    ∃ (pv : List (Value × Value)) (prs : List (Key × Value)), KV kvs prs ∧ pv.length = ps.length ∧ prs.length = ps.length ∧ ∀ (j : Nat) (k v : Value), pv[j]? = some (k, v) → ∃ (b : Addr) (key : Key), ps[j]? = some b ∧ IsTup s.heap b #[k, v] ∧ prs[j]? = some (key, v) ∧ keyIs key k = true
  | _, _, .nil => ⟨[], [], .nil, rfl, rfl, fun j k v e => by simp at e⟩
  | _, _, .cons (a := p) (b := kv) h t => by
    obtain ⟨pv, prs, r, hl, hl2, hp⟩ := pairs_pv I t
    obtain ⟨its, rv, ht, _⟩ := I.tuple h
    obtain ⟨u, y, ei, ru, ry⟩ := vals2 rv
    subst ei
    refine ⟨(u, y) :: pv, (kv.1, y) :: prs, .cons ⟨rfl, ry⟩ r, by rw [List.length_cons, List.length_cons, hl], by rw [List.length_cons, List.length_cons, hl2], fun j k v e => ?_⟩
    cases j with
    | zero =>
      have e' : (u, y) = (k, v) := Option.some.inj e
      cases e'
      exact ⟨p, kv.1, rfl, ht, rfl, kV_is (P := X.prog) (w := X.w) ru⟩
    | succ j =>
      obtain ⟨b, key, e1, e2, e3, e4⟩ := hp j k v (by simpa using e)
      exact ⟨b, key, by simpa using e1, e2, by simpa using e3, e4⟩
def rDictF (K : Fg) : List V → Hp → VK → Prop := fun xs H Q => ∃ (a : Addr) (o : Obj) (ps : List Addr) (kvs : List (Key × V)), xs = [.ref a] ∧ H a = some (.frz o (.tup (ps.map V.ref))) ∧ o.dict = none ∧ Paired (fun p kv => SqT K H p [kV kv.1, kv.2]) ps kvs ∧
  ∀ p, H p = none → Q (.ref p) (upd H p (.dK (mergeK [] kvs)))
theorem cr_dictF (hcalm : X.calm = true) : CallR X (.type "dict") (rDictF X.K) := by
  intro pins s σ H xs us Q I r q
  obtain ⟨a, o, ps, kvs, ex, hq, hd, hp, q⟩ := q
  subst ex
  obtain ⟨u, eu, rx⟩ := vals1 r
  subst eu
  cases rx
  obtain ⟨ho, hz, its, rv, o', ho', hc, n, hdat⟩ := (show ObjOk X.prog X.w H s.heap a (.frz o (.tup (ps.map V.ref))) from I.hok a _ hq)
  obtain rfl : o = o' := Option.some.inj (ho.symm.trans ho')
  have ei := refs_at rv
  subst ei
  rw [List.length_map] at hz
  obtain ⟨pv, prs, rel, hl, hl2, hpr⟩ := pairs_pv I hp
  have items : PairItems s.heap (ps.map Value.ref).toArray (fun j => ps.getD j 0) pv := by
    refine ⟨by simp [hl], fun j k v e => ?_⟩
    obtain ⟨b, key, e1, e2, e3, e4⟩ := hpr j k v e
    have eb : ps.getD j 0 = b := by rw [List.getD_eq_getElem?_getD, e1]; rfl
    refine ⟨by simp [e1, eb], ?_⟩
    dsimp only
    rw [eb]
    exact .inl e2
  refine PySem.call_dict_pairs (knd := mixKind X.prog X.w) (kvs := prs) (PairArg.tuple a (ps.map Value.ref).toArray (fun j => ps.getD j 0) pv) (I.ok.hd hcalm) ⟨⟨o, n, ho, hc, hd, hdat⟩, items⟩ ⟨by omega, fun i key v e => ?_⟩ (by omega) fun h' tk hd' k => ?_
  · obtain ⟨b, ke, e1, e2, e3, e4⟩ := hpr i key v e
    exact ⟨ke, e3, e4⟩
  · have hm : (s.heap.objs.size == sysModules) = false := beq_eq_false_iff_ne.mpr (Nat.ne_of_gt I.big)
    have hlen : (mergeK [] kvs).length ≤ sizeLine := by
      refine Nat.le_trans (length_mergeK kvs []) ?_
      rw [List.length_nil, Nat.zero_add, rel.length, hl2]
      exact hz
    exact ⟨.ref s.heap.objs.size, upd H s.heap.objs.size (.dK (mergeK [] kvs)), I.laid (t' := tk) (fun b o e => k b o (by simp) e) (Nat.le_refl _) (show ObjOk X.prog X.w _ _ _ (.dK (mergeK [] kvs)) from ⟨hlen, hm, merged [] prs, KV.merge rel .nil, hd'⟩), rfl, q _ (I.hok.fresh (Nat.le_refl _))⟩
def vDictF (xs : List W) (S : Sto) (Q : WK) : Prop := match xs with
  | [.ref i] => ∃ kws, S[i]? = some (.ft (kws.map pairW)) ∧ Q (.ref S.length) (S ++ [.dk (mergeW [] kws)])
  | _ => False
theorem dictF_sim {K : Fg} : SimC K (rDictF K) vDictF := by
  intro r H S xs ws Q Q0 R l d k
  cases l with
  | nil => exact d.elim
  | cons p l =>
    cases l with
    | cons p' l' => cases p <;> exact d.elim
    | nil =>
      cases p <;> try exact d.elim
      rename_i a i h
      obtain ⟨kws, h0, q⟩ := d
      obtain ⟨o, xs, h3, ho, l⟩ := R.obj i _ _ h h0
      obtain ⟨ps, kvs, rfl, h1, h2⟩ := pairs_rep l
      exact ⟨a, o, ps, kvs, rfl, h3, ho, h1, fun p hp => k _ _ _ _ _ (ext_mem hp) (new_dk R hp (merge_sim h2 kv_nil)) (rep_mem R) q⟩
theorem c_dictF (hc : X.calm = true) (hg : Gl X "dict") (hm : X.mg "dict" = none) (ha : XA X (e :: es) dA) (he : starEach (e :: es) X.env = (false, eval e X.env) :: starEach es X.env := by rfl) (hpl : (backTo pos (starEach es X.env)).any (·.1) = false := by rfl) : XE X (.Call (.Name "dict" p) (e :: es) [] pos) (dCB vDictF dA) :=
  xe_callTy (cr_dictF hc) dictF_sim hg hm (by decide +kernel) ha (by decide) (by decide) he hpl
end
end DL

/-! DND: dicts whose keys are tuples of any depth. -/
namespace DL
open PySem PySem.Spec PyProof.Rows L2
abbrev Ent := NestedKey × Addr × V
/-! ### entry by entry -/
inductive NdR (K : Fg) (r : List Addr) (H : Hp) : List Ent → List (W × W) → Prop
  | nil : NdR K r H [] []
  | cons {e : Ent} {kv : W × W} {es : List Ent} {kvs : List (W × W)} : e.1 = nkW kv.1 → HkW kv.1 → Rep K [] H (.ref e.2.1) kv.1 → Rep K r H e.2.2 kv.2 → NdR K r H es kvs → NdR K r H (e :: es) (kv :: kvs)
section
variable {K : Fg} {r : List Addr} {H : Hp}
theorem ndR_mk : ∀ {es : List Ent} {kvs : List (W × W)}, es.map (·.1) = kvs.map (fun kv => nkW kv.1) → (∀ kv ∈ kvs, HkW kv.1) → RepL K [] H (es.map fun e => .ref e.2.1) (kvs.map (·.1)) → RepL K r H (es.map (·.2.2)) (kvs.map (·.2)) → NdR K r H es kvs
  | [], [], _, _, _, _ => .nil
  | [], _ :: _, h, _, _, _ => by simp at h
  | _ :: _, [], h, _, _, _ => by simp at h
  | e :: es, kv :: kvs, h1, h2, h3, h4 => by
    rw [List.map_cons, List.map_cons] at h1 h3 h4
    cases h3 with
    | cons a b =>
      cases h4 with
      | cons c d => exact .cons (List.cons.inj h1).1 (h2 kv (List.mem_cons_self ..)) a c (ndR_mk (List.cons.inj h1).2 (fun x hx => h2 x (List.mem_cons_of_mem _ hx)) b d)
theorem NdR.out {es : List Ent} {kvs : List (W × W)} (h : NdR K r H es kvs) : es.map (·.1) = kvs.map (fun kv => nkW kv.1) ∧ (∀ kv ∈ kvs, HkW kv.1) ∧ RepL K [] H (es.map fun e => .ref e.2.1) (kvs.map (·.1)) ∧ RepL K r H (es.map (·.2.2)) (kvs.map (·.2)) := by
  induction h with
  | nil => exact ⟨rfl, (fun _ h => nomatch h), .nil, .nil⟩
  | cons h1 h2 h3 h4 _ ih =>
    obtain ⟨i1, i2, i3, i4⟩ := ih
    exact ⟨by rw [List.map_cons, List.map_cons, h1, i1], fun kv hkv => (List.mem_cons.mp hkv).elim (fun e => e ▸ h2) (i2 kv), .cons h3 i3, .cons h4 i4⟩
def valN (kvs : List (W × W)) (k : W) : Option W := (kvs.find? fun kv => decide (nkW kv.1 = nkW k)).map (·.2)
def putN (kvs : List (W × W)) (k v : W) : List (W × W) := if (valN kvs k).isSome = true then kvs.map (fun kv => if nkW kv.1 = nkW k then (kv.1, v) else kv) else kvs ++ [(k, v)]
def valE (es : List Ent) (k : NestedKey) : Option V := (es.find? fun e => decide (e.1 = k)).map (·.2.2)
def setE (k : NestedKey) (v : V) (e : Ent) : Ent := if e.1 = k then (e.1, e.2.1, v) else e
def putE (es : List Ent) (k : NestedKey) (a : Addr) (v : V) : List Ent := if (valE es k).isSome = true then es.map (setE k v) else es ++ [(k, a, v)]
theorem NdR.val {k : W} {es : List Ent} {kvs : List (W × W)} (h : NdR K r H es kvs) : (∀ w, valN kvs k = some w → ∃ v, valE es (nkW k) = some v ∧ Rep K r H v w) ∧ (valN kvs k = none → valE es (nkW k) = none) := by
  induction h with
  | nil => exact ⟨(fun w h => by cases h), fun _ => rfl⟩
  | @cons e kv es kvs h1 h2 h3 h4 _ ih =>
    unfold valN valE at ih ⊢
    by_cases c : nkW kv.1 = nkW k
    · have c2 : e.1 = nkW k := h1.trans c
      simp only [List.find?_cons]
      rw [decide_eq_true c, decide_eq_true c2]
      exact ⟨(fun w hw => by cases hw; exact ⟨_, rfl, h4⟩), (fun hw => by cases hw)⟩
    · have c2 : e.1 ≠ nkW k := fun q => c (h1.symm.trans q)
      simp only [List.find?_cons]
      rw [decide_eq_false c, decide_eq_false c2]
      exact ih
theorem NdR.some_iff {k : W} {es : List Ent} {kvs : List (W × W)} (h : NdR K r H es kvs) : (valE es (nkW k)).isSome = (valN kvs k).isSome := by
  obtain ⟨a, b⟩ := h.val (k := k)
  cases e : valN kvs k with
  | none =>
    rw [b e]
    rfl
  | some w =>
    obtain ⟨v, hv, _⟩ := a w e
    rw [hv]
    rfl
theorem NdR.app {es fs : List Ent} {kvs lvs : List (W × W)} (h : NdR K r H es kvs) (h' : NdR K r H fs lvs) : NdR K r H (es ++ fs) (kvs ++ lvs) := by
  induction h with
  | nil => exact h'
  | cons h1 h2 h3 h4 _ ih => exact .cons h1 h2 h3 h4 ih
theorem ndR_set {k w : W} {v : V} (hv : Rep K r H v w) {es : List Ent} {kvs : List (W × W)} (h : NdR K r H es kvs) : NdR K r H (es.map (setE (nkW k) v)) (kvs.map fun kv => if nkW kv.1 = nkW k then (kv.1, w) else kv) := by
  induction h with
  | nil => exact .nil
  | @cons e kv es kvs h1 h2 h3 h4 _ ih =>
    rw [List.map_cons, List.map_cons]
    unfold setE
    by_cases c : nkW kv.1 = nkW k
    · have c2 : e.1 = nkW k := h1.trans c
      rw [if_pos c, if_pos c2]
      exact .cons h1 h2 h3 hv ih
    · have c2 : e.1 ≠ nkW k := fun q => c (h1.symm.trans q)
      rw [if_neg c, if_neg c2]
      exact .cons h1 h2 h3 h4 ih
theorem NdR.put {k w : W} {a : Addr} {v : V} {es : List Ent} {kvs : List (W × W)} (h : NdR K r H es kvs) (hk : HkW k) (hr : Rep K [] H (.ref a) k) (hv : Rep K r H v w) : NdR K r H (putE es (nkW k) a v) (putN kvs k w) := by
  unfold putE putN
  rw [h.some_iff]
  split
  · exact ndR_set hv h
  · exact h.app (.cons rfl hk hr hv .nil)
theorem NdR.mono' {r' : List Addr} {H' : Hp} (e : Kp K r H r' H') {es : List Ent} {kvs : List (W × W)} (h : NdR K r H es kvs) : NdR K r' H' es kvs := by
  induction h with
  | nil => exact .nil
  | cons h1 h2 h3 h4 _ ih => exact .cons h1 h2 (h3.mono' ⟨fun _ _ h => (by cases h), e.tup, e.frz⟩) (h4.mono' e) ih
theorem NdR.length {es : List Ent} {kvs : List (W × W)} (h : NdR K r H es kvs) : es.length = kvs.length := by
  have z := congrArg List.length h.out.1
  rwa [List.length_map, List.length_map] at z
/-! ### a hashable value leans on no store -/
mutual
theorem rep_hk : ∀ {v : V} {w : W}, Rep K r H v w → w.hk = true → Rep K [] H v w
  | _, _, .non, _ => .non
  | _, _, .bl b, _ => .bl b
  | _, _, .int i, _ => .int i
  | _, _, .str x, _ => .str x
  | _, _, .tup h l, hk => .tup h (repL_hk l hk)
  | _, _, .lit _ _, hk => by cases hk
  | _, _, .ref _, hk => by cases hk
  | _, _, .raw _, hk => by cases hk
theorem repL_hk : ∀ {vs : List V} {ws : List W}, RepL K r H vs ws → W.hkL ws = true → RepL K [] H vs ws
  | _, _, .nil, _ => .nil
  | _, _, .cons (w := w) (ws := ws) h l, hk => by
    have b : (w.hk && W.hkL ws) = true := hk
    rw [Bool.and_eq_true] at b
    exact .cons (rep_hk h b.1) (repL_hk l b.2)
end
theorem rep_any {v : V} {w : W} (h : Rep K [] H v w) : Rep K r H v w := h.mono' ⟨fun _ _ h => (by cases h), fun _ _ h => h, fun _ _ _ h => h⟩
end
/-! ### in the heap -/
theorem key_nodup_put {es : List Ent} {k : NestedKey} {a : Addr} {v : V} (h : (es.map (·.1)).Nodup) : ((putE es k a v).map (·.1)).Nodup := by
  unfold putE
  split
  · rw [List.map_map]
    have e : es.map ((·.1) ∘ setE k v) = es.map (·.1) := List.map_congr_left fun e _ => by
      show (setE k v e).1 = e.1
      unfold setE
      split <;> rfl
    rw [e]
    exact h
  · rename_i hn
    rw [List.map_append]
    refine List.nodup_append.mpr ⟨h, List.nodup_cons.mpr ⟨List.not_mem_nil, List.nodup_nil⟩, fun x hx y hy e => hn ?_⟩
    rw [List.map_cons, List.map_nil, List.mem_singleton] at hy
    subst hy
    subst e
    obtain ⟨q, hq, hqe⟩ := List.mem_map.mp hx
    unfold valE
    rw [Option.isSome_map]
    exact List.find?_isSome.mpr ⟨q, hq, decide_eq_true hqe⟩
theorem relx_find {k : NestedKey} {es : List Ent} {xs : List (NestedKey × Addr × Value)} (h : Paired RelX es xs) : (∀ v, valE es k = some v → ∃ p, atKey xs k = some p ∧ RelV v p.2) ∧ (valE es k = none → atKey xs k = none) := by
  induction h with
  | nil => exact ⟨(fun v h => by cases h), fun _ => rfl⟩
  | @cons e x es xs a _ ih =>
    unfold valE atKey at ih ⊢
    by_cases c : e.1 = k
    · have c2 : x.1 = k := a.k.symm.trans c
      simp only [List.find?_cons]
      rw [decide_eq_true c, decide_eq_true c2]
      exact ⟨(fun v hv => by cases hv; exact ⟨_, rfl, a.v⟩), (fun hv => by cases hv)⟩
    · have c2 : x.1 ≠ k := fun q => c (a.k.trans q)
      simp only [List.find?_cons]
      rw [decide_eq_false c, decide_eq_false c2]
      exact ih
theorem paired_app {α β : Type} {R : α → β → Prop} : ∀ {as : List α} {bs : List β} {cs : List α} {ds : List β}, Paired R as bs → Paired R cs ds → Paired R (as ++ cs) (bs ++ ds)
  | _, _, _, _, .nil, h => h
  | _, _, _, _, .cons r t, h => .cons r (paired_app t h)
theorem relx_set {k : NestedKey} {v : V} {u : Value} (hv : RelV v u) {es : List Ent} {xs : List (NestedKey × Addr × Value)} (h : Paired RelX es xs) : Paired RelX (es.map (setE k v)) (xs.map (putAt k u)) := by
  induction h with
  | nil => exact .nil
  | @cons e x es xs b _ ih =>
    rw [List.map_cons, List.map_cons]
    refine .cons ?_ ih
    unfold setE putAt
    by_cases c : e.1 = k
    · rw [if_pos c, if_pos (b.k.symm.trans c)]
      exact ⟨b.k, b.a, hv⟩
    · rw [if_neg c, if_neg fun q => c (b.k.trans q)]
      exact b
theorem relx_keys {es : List Ent} {xs : List (NestedKey × Addr × Value)} (h : Paired RelX es xs) : xs.map (·.1) = es.map (·.1) := by
  induction h with
  | nil => rfl
  | cons a _ ih => rw [List.map_cons, List.map_cons, ih, a.k]
theorem relx_put {k : NestedKey} {a : Addr} {v : V} {u : Value} (hv : RelV v u) {es : List Ent} {xs : List (NestedKey × Addr × Value)} (h : Paired RelX es xs) : Paired RelX (putE es k a v) (storedH xs k a u) := by
  obtain ⟨f1, f2⟩ := relx_find (k := k) h
  unfold putE
  cases c : valE es k with
  | none =>
    rw [storedH_new (f2 c)]
    exact paired_app h (.cons ⟨rfl, rfl, hv⟩ .nil)
  | some v0 =>
    obtain ⟨p, hp, _⟩ := f1 v0 c
    rw [storedH_old hp]
    show Paired RelX (if true = true then es.map (setE k v) else _) _
    rw [if_pos rfl]
    exact relx_set hv h
theorem ndO_ok {P : Program} {w : World} {H : Hp} {h : Heap} {a : Addr} {es : List Ent} {xs : List (NestedKey × Addr × Value)} (p : Paired RelX es xs) (d : h.DictOfH (nestedKind P w) a xs) : ObjOk P w H h a (ndO P w a es) := by
  obtain ⟨o, ents, ep, h1, h2, h3, h4, _, _⟩ := d
  refine ⟨⟨xs, p, o, ents, ep, h1, h2, h3, h4⟩, ⟨o, h1⟩, fun g1 g2 ⟨xs, p, o, ents, ep, h1, h2, h3, h4⟩ k => ⟨xs, p, o, ents, ep, k _ h1, h2, h3, h4⟩⟩
/-- a dict of such keys, for the rules -/
theorem ndH_ok {P : Program} {w : World} {H : Hp} {h : Heap} {a : Addr} {z : Option Obj} {es : List Ent} (x : ObjOk P w H h a (ndH z (ndO P w a es))) : ∃ xs, Paired RelX es xs ∧ ∃ o ents ep, h.get? a = some o ∧ o.ExactDict ∧ o.data = .dict ents ep ∧ ents.toList = xs.map (entryOfKey (nestedKind P w)) := by
  cases z with
  | none => exact x.1
  | some o => exact x.2.1
structure NdV (K : Fg) (P : Program) (w : World) (H : Hp) (a : Addr) (z : Option Obj) (es : List Ent) : Prop where
  obj : H a = some (ndH z (ndO P w a es))
  sys : (a == sysModules) = false
  len : es.length ≤ sizeLine
  nd : (es.map (·.1)).Nodup
  key : ∀ e ∈ es, ∃ kw, e.1 = nkW kw ∧ HkW kw ∧ Rep K [] H (.ref e.2.1) kw
section
variable {X : Cx} {pins : List (Addr × Obj)} {σ : L2.St} {H : Hp} {s : Shared}
theorem key_ni {b : Addr} {kw : W} (I : Inv X pins σ H s) (hr : Rep X.K [] H (.ref b) kw) (hk : HkW kw) : NS.NI X.prog X.w s.heap (nkW kw) b :=
  Hk.ni (b := (.ref b, kw)) ⟨⟨b, rfl⟩, dp_of hr (hk_pure _ hk.1), hk.1, hk.2.1⟩ I
theorem NdV.of {a : Addr} {z : Option Obj} {es : List Ent} (I : Inv X pins σ H s) (n : NdV X.K X.prog X.w H a z es) : ∃ xs, Paired RelX es xs ∧ s.heap.DictOfH (nestedKind X.prog X.w) a xs := by
  obtain ⟨xs, p, o, ents, ep, h1, h2, h3, h4⟩ := ndH_ok (I.hok a _ n.obj)
  refine ⟨xs, p, o, ents, ep, h1, h2, h3, h4, fun x hx => ?_, ?_⟩
  · obtain ⟨i, hi⟩ := List.getElem?_of_mem hx
    obtain ⟨e, he, re⟩ := paired_get p hi
    obtain ⟨kw, k1, k2, k3⟩ := n.key e (List.mem_of_getElem? he)
    rw [← re.k, ← re.a, k1]
    exact key_ni I k3 k2
  · rw [relx_keys p]
    exact n.nd
where paired_get : ∀ {es : List Ent} {xs : List (NestedKey × Addr × Value)} {i : Nat} {x : NestedKey × Addr × Value}, Paired RelX es xs → xs[i]? = some x → ∃ e, es[i]? = some e ∧ RelX e x
  | _, _, _, _, .nil, h => by simp at h
  | _, _, 0, _, .cons r _, h => by
    cases Option.some.inj h
    exact ⟨_, rfl, r⟩
  | _, _, i + 1, _, .cons _ t, h => paired_get (i := i) t (by simpa using h)
theorem nd_type {a : Addr} {z : Option Obj} {es : List Ent} (I : Inv X pins σ H s) (n : H a = some (ndH z (ndO X.prog X.w a es))) : s.TypeIs (.ref a) "dict" ∧ ∀ b, Value.ref a = .ref b → ∃ o, s.heap.get? b = some o ∧ o.dict = none := by
  obtain ⟨xs, p, o, ents, ep, h1, h2, h3, h4⟩ := ndH_ok (I.hok a _ n)
  exact ⟨⟨o, h1, h2.1⟩, fun b e => by cases e; exact ⟨o, h1, h2.2.1⟩⟩
end
theorem ndR_key {K : Fg} {r : List Addr} {H : Hp} {es : List Ent} {kvs : List (W × W)} (l : NdR K r H es kvs) : ∀ e ∈ es, ∃ kw, e.1 = nkW kw ∧ HkW kw ∧ Rep K [] H (.ref e.2.1) kw := by
  induction l with
  | nil => exact fun e he => nomatch he
  | @cons e0 kv es kvs k1 k2 k3 _ _ ih =>
    intro e he
    rcases List.mem_cons.mp he with rfl | he
    · exact ⟨kv.1, k1, k2, k3⟩
    · exact ih e he
theorem NdR.v {K : Fg} {P : Program} {w : World} {r : List Addr} {H : Hp} {a : Addr} {z : Option Obj} {es : List Ent} {kvs : List (W × W)} (l : NdR K r H es kvs) (h1 : H a = some (ndH z (ndO P w a es))) (h2 : (a == sysModules) = false) (h3 : es.length ≤ sizeLine) (h5 : (es.map (·.1)).Nodup) : NdV K P w H a z es := by
  exact ⟨h1, h2, h3, h5, ndR_key l⟩
/-- an object of the store -/
theorem nd_at {K : Fg} {P : Program} {w : World} {r : List Addr} {H : Hp} {S : Sto} {i : Nat} {a : Addr} {z : Option Obj} {kvs : List (W × W)} (R : RelS K r H S) (hp : r[i]? = some a) (hi : S[i]? = some (.nd P w z kvs)) : ∃ es, NdV K P w H a z es ∧ NdR K r H es kvs := by
  obtain ⟨es, h1, h2, h3, h4, h5, h6, h7, h8⟩ := R.obj i a _ hp hi
  have l := ndR_mk h4 h6 h7 h8
  exact ⟨es, l.v h1 h2 h3 h5, l⟩
end DL

/-! DND2: what is done with dicts of tuple keys of any depth: made, read, written, asked. -/
namespace DL
open PySem PySem.Spec PyProof.Rows L2
theorem rep_tupV {K : Fg} {r : List Addr} {H : Hp} {v : V} {w : W} (h : Rep K r H v w) (hk : HkW w) : ∃ b, v = .ref b ∧ Rep K [] H (.ref b) w := by
  obtain ⟨ws, rfl⟩ := hk.2.2
  have h2 := rep_hk h hk.1
  cases h with
  | @tup a xs ws q l => exact ⟨a, rfl, h2⟩
section
variable {X : Cx} {pos : Pos}
/-! ### {} -/
theorem pe_dnewN : PE X (.Dict [] [] pos) (fun _ H Q => ∀ p, H p = none → (p == sysModules) = false → Q (.ref p) (upd H p (ndO X.prog X.w p []))) := ⟨fun pins s σ H Q I h =>
  wpAny_Dict_empty ⟨.ref s.heap.objs.size, _, I.laid (a := s.heap.objs.size) (o := ndO X.prog X.w s.heap.objs.size []) (t' := s.toks) (fun _ _ q => Heap.get?_push_of_some _ q) (Nat.le_refl _) (ndO_ok .nil (Heap.DictOfH.new s.heap)), rfl,
    h _ (I.hok.fresh (Nat.le_refl _)) (beq_eq_false_iff_ne.mpr (Nat.ne_of_gt I.big))⟩⟩
def dDictN (P : Program) (w : World) : DE := fun _ S Q => Q (.ref S.length) (S ++ [.nd P w none []])
theorem new_nd {K : Fg} {r : List Addr} {H : Hp} {S : Sto} {P : Program} {w : World} (R : RelS K r H S) {p : Addr} (h : H p = none) (hs : (p == sysModules) = false) : RelS K (r ++ [p]) (upd H p (ndO P w p [])) (S ++ [.nd P w none []]) :=
  rel_mem (o := .nd P w none []) R h ⟨[], upd_same, hs, Nat.zero_le _, rfl, List.nodup_nil, (fun _ h => nomatch h), .nil, .nil⟩
theorem xe_dictN : XE X (.Dict [] [] pos) (dDictN X.prog X.w) := ⟨_, pe_dnewN, fun r H S s env Q Q0 R E d k => fun p hp hs => k _ _ _ _ _ (ext_mem hp) (new_nd R hp hs) (rep_mem R) d⟩
/-! ### d[k] -/
def rIxN (K : Fg) (P : Program) (w : World) : R2 := fun x y H Q => ∃ (p b : Addr) (zo : Option Obj) (es : List Ent) (kw : W) (v : V), x = .ref p ∧ y = .ref b ∧ NdV K P w H p zo es ∧ HkW kw ∧ Rep K [] H (.ref b) kw ∧ valE es (nkW kw) = some v ∧ Q v H
theorem ix_nd (hu : X.A.units + 64 < cLine) : IxR X (rIxN X.K X.prog X.w) := by
  intro value slice pins s σ H x y v u Q I rx ry h hs
  obtain ⟨p, b, zo, es, kw, r, rfl, rfl, n, hk, hr, hv, q⟩ := h
  obtain rfl : v = Value.ref p := rx
  obtain rfl : u = Value.ref b := ry
  obtain ⟨xs, px, dd⟩ := n.of I
  obtain ⟨pr, hp, rv⟩ := (relx_find px).1 r hv
  refine tail_any dd.typeIs slot_dict_getitem.lookup (wpAny_getItem_heap (show X.A.units + 1 + 8 < cLine by omega) (key_ni I hr hk) dd hp ?_) hs
  exact ⟨r, H, I.tok _, rv, q⟩
def vIxN (P : Program) (w : World) (x y : W) (S : Sto) (Q : WK) : Prop := match x with
  | .ref p => ∃ zo kvs v, S[p]? = some (.nd P w zo kvs) ∧ HkW y ∧ valN kvs y = some v ∧ Q v S
  | _ => False
theorem ixN_sim {K : Fg} {P : Program} {w : World} : SimR K (rIxN K P w) (vIxN P w) := by
  intro r H S x y wx wy Q Q0 R px py d k
  cases px <;> try exact d.elim
  rename_i a i h
  obtain ⟨zo, kvs, v, h0, hk, hv, q⟩ := d
  obtain ⟨es, n, l⟩ := nd_at R h h0
  obtain ⟨b, rfl, hr⟩ := rep_tupV py hk
  obtain ⟨v', hv', pv⟩ := l.val.1 v hv
  exact ⟨a, b, zo, es, wy, v', rfl, rfl, n, hk, hr, hv', k r H S _ _ .refl R pv q⟩
theorem x_ixN {a b : Expr} {da db : DE} (hu : X.A.units + 64 < cLine) (ha : XE X a da) (hb : XE X b db) (hs : PlainIx b := by exact fun _ _ => rfl) : XE X (.Subscript a b pos) (dOp (vIxN X.prog X.w) da db) := xe_ix (ix_nd hu) ixN_sim ha hb hs
/-! ### d[k] = v -/
def rSetN2 (K : Fg) (P : Program) (w : World) : V → V → V → Hp → (Hp → Prop) → Prop := fun o i v H Q => ∃ (p b : Addr) (es : List Ent) (kw : W), o = .ref p ∧ i = .ref b ∧ NdV K P w H p none es ∧ HkW kw ∧ Rep K [] H (.ref b) kw ∧ es.length < sizeLine ∧ Q (upd H p (ndO P w p (putE es (nkW kw) b v)))
theorem nd_write {pins : List (Addr × Obj)} {σ : L2.St} {H : Hp} {s : Shared} {p b : Addr} {es : List Ent} {k : NestedKey} {v : V} {u : Value} {xs : List (NestedKey × Addr × Value)} {h' : Heap} {t' : Nat} (I : Inv X pins σ H s) (n : NdV X.K X.prog X.w H p none es) (px : Paired RelX es xs) (rv : RelV v u)
    (dd : h'.DictOfH (nestedKind X.prog X.w) p (storedH xs k b u)) (sb : Heap.SameBut p s.heap h') : Inv X pins σ (upd H p (ndO X.prog X.w p (putE es k b v))) { s with heap := h', toks := t' } := by
  have he : ∃ q, h'.get? p = some q := let ⟨q, _, _, hq, _⟩ := dd; ⟨q, hq⟩
  exact d_write I (by rw [n.obj]; exact True.intro) sb he (ndO_ok (relx_put rv px) dd)
theorem set_nd (hu : X.A.units + 64 < cLine) : PSet X (rSetN2 X.K X.prog X.w) := by
  intro pins s σ H o i v ov iv u Q I ro ri rv h
  obtain ⟨p, b, es, kw, rfl, rfl, n, hk, hr, hl, q⟩ := h
  obtain rfl : ov = Value.ref p := ro
  obtain rfl : iv = Value.ref b := ri
  obtain ⟨xs, px, dd⟩ := n.of I
  have hlx : xs.length = es.length := by
    have z := congrArg List.length (relx_keys px)
    rwa [List.length_map, List.length_map] at z
  refine wpAny_setItem_heap (show X.A.units + 1 + 8 < cLine by omega) (key_ni I hr hk) dd (fun h' dd' sb => ⟨_, nd_write I n px rv dd' sb, q⟩) (by have := n.len; omega)
def vSetN2 (P : Program) (w : World) (o i v : W) (S : Sto) (Q : Sto → Prop) : Prop := match o with
  | .ref p => ∃ kvs, S[p]? = some (.nd P w none kvs) ∧ HkW i ∧ kvs.length < sizeLine ∧ Q (S.set p (.nd P w none (putN kvs i v)))
  | _ => False
theorem putE_len (es : List Ent) (k : NestedKey) (a : Addr) (v : V) : (putE es k a v).length ≤ es.length + 1 := by
  unfold putE
  split
  · rw [List.length_map]
    omega
  · rw [List.length_append]
    exact Nat.le_refl _
theorem wr_nd {K : Fg} {r : List Addr} {H : Hp} {S : Sto} {P : Program} {w : World} {i : Nat} {a b : Addr} {es : List Ent} {kvs : List (W × W)} {k v : W} {u : V} (R : RelS K r H S) (hp : r[i]? = some a) (n : NdV K P w H a none es) (l : NdR K r H es kvs) (hk : HkW k) (hr : Rep K [] H (.ref b) k) (hv : Rep K r H u v) (hl : es.length < sizeLine) :
    RelS K r (upd H a (ndO P w a (putE es (nkW k) b u))) (S.set i (.nd P w none (putN kvs k v))) := by
  have e0 : Ext K r H r (upd H a (ndO P w a (putE es (nkW k) b u))) := ext_wr hp n.obj trivial
  have l2 := (l.put hk hr hv).mono' e0.toKp
  obtain ⟨h4, h6, h7, h8⟩ := l2.out
  refine rel_wr R hp n.obj trivial ⟨_, upd_same, n.sys, ?_, h4, key_nodup_put n.nd, h6, h7, h8⟩
  have := putE_len es (nkW k) b u
  omega
theorem setN_sim {K : Fg} {P : Program} {w : World} : SimSet K (rSetN2 K P w) (vSetN2 P w) := by
  intro r H S o i v wo wi wv Q Q0 R po pi pv d k
  cases po <;> try exact d.elim
  rename_i a j h
  obtain ⟨kvs, h0, hk, hl, q⟩ := d
  obtain ⟨es, n, l⟩ := nd_at R h h0
  obtain ⟨b, rfl, hr⟩ := rep_tupV pi hk
  have hl2 : es.length < sizeLine := by rw [l.length]; exact hl
  exact ⟨a, b, es, wi, rfl, rfl, n, hk, hr, hl2, k r _ _ (ext_wr h n.obj trivial) (wr_nd R h n l hk hr pv hl2) q⟩
theorem g_subN {o b : Expr} {da db : DE} (hu : X.A.units + 64 < cLine) (ho : XE X o da) (hi : XE X b db) (ha : ∀ v, assign (.Subscript o b pos) X.env v = (do
      let ov ← holding [v] (eval o X.env)
      let iv ← holding [v, ov] (eval b X.env)
      standAt pos
      holding [v, ov, iv] (setItem ov iv v)
      release [v, ov, iv] []) := by intro _; rfl) : XG X (.Subscript o b pos) (gSb da db (vSetN2 X.prog X.w)) := xg_sub (set_nd hu) setN_sim ho hi ha
/-! ### in -/
def rInN (K : Fg) (P : Program) (w : World) (neg : Bool) : R2 := fun x y H Q => ∃ (p b : Addr) (zo : Option Obj) (es : List Ent) (kw : W), y = .ref p ∧ x = .ref b ∧ NdV K P w H p zo es ∧ HkW kw ∧ Rep K [] H (.ref b) kw ∧ Q (.bl (neg ^^ (valE es (nkW kw)).isSome)) H
theorem relx_some {k : NestedKey} {es : List Ent} {xs : List (NestedKey × Addr × Value)} (h : Paired RelX es xs) : (atKey xs k).isSome = (valE es k).isSome := by
  obtain ⟨f1, f2⟩ := relx_find (k := k) h
  cases e : valE es k with
  | none =>
    rw [f2 e]
    rfl
  | some v =>
    obtain ⟨p, hp, _⟩ := f1 v e
    rw [hp]
    rfl
theorem op_inN (hu : X.A.units + 64 < cLine) : OpR X (compareOp .In) (rInN X.K X.prog X.w false) := by
  intro pins s σ H x y v u Q I rx ry h
  obtain ⟨p, b, zo, es, kw, rfl, rfl, n, hk, hr, q⟩ := h
  obtain rfl : u = Value.ref p := ry
  obtain rfl : v = Value.ref b := rx
  obtain ⟨xs, px, dd⟩ := n.of I
  rw [Bool.false_xor, ← relx_some px] at q
  exact wpAny_in_heap (show X.A.units + 1 + 8 < cLine by omega) (key_ni I hr hk) n.sys dd ⟨.bl _, H, I.tok _, rfl, q⟩
theorem op_notInN (hu : X.A.units + 64 < cLine) : OpR X (compareOp .NotIn) (rInN X.K X.prog X.w true) := by
  intro pins s σ H x y v u Q I rx ry h
  obtain ⟨p, b, zo, es, kw, rfl, rfl, n, hk, hr, q⟩ := h
  obtain rfl : u = Value.ref p := ry
  obtain rfl : v = Value.ref b := rx
  obtain ⟨xs, px, dd⟩ := n.of I
  rw [Bool.true_xor, ← relx_some px] at q
  exact wpAny_notIn_heap (show X.A.units + 1 + 8 < cLine by omega) (key_ni I hr hk) n.sys dd ⟨.bl _, H, I.tok _, rfl, q⟩
def vInN (P : Program) (w : World) (neg : Bool) (x y : W) (S : Sto) (Q : WK) : Prop := match y with
  | .ref p => ∃ zo kvs, S[p]? = some (.nd P w zo kvs) ∧ HkW x ∧ Q (.bl (neg ^^ (valN kvs x).isSome)) S
  | _ => False
theorem inN_sim {K : Fg} {P : Program} {w : World} {neg : Bool} : SimR K (rInN K P w neg) (vInN P w neg) := by
  intro r H S x y wx wy Q Q0 R px py d k
  cases py <;> try exact d.elim
  rename_i a i h
  obtain ⟨zo, kvs, h0, hk, q⟩ := d
  obtain ⟨es, n, l⟩ := nd_at R h h0
  obtain ⟨b, rfl, hr⟩ := rep_tupV px hk
  refine ⟨a, b, zo, es, wx, rfl, rfl, n, hk, hr, ?_⟩
  rw [l.some_iff]
  exact k r H S _ _ .refl R (.bl _) q
theorem t_inN {a b : Expr} {da db : DE} (hu : X.A.units + 64 < cLine) (ha : XE X a da) (hb : XE X b db) (hm : behindInMarks .In b = false := by rfl) : XT X (.Compare a [.In] [b] pos) (dB (dOp (vInN X.prog X.w false) da db)) := xt_cmp (op_inN hu) inN_sim ha hb hm
theorem t_notinN {a b : Expr} {da db : DE} (hu : X.A.units + 64 < cLine) (ha : XE X a da) (hb : XE X b db) (hm : behindInMarks .NotIn b = false := by rfl) : XT X (.Compare a [.NotIn] [b] pos) (dB (dOp (vInN X.prog X.w true) da db)) := xt_cmp (op_notInN hu) inN_sim ha hb hm
theorem x_notinN {a b : Expr} {da db : DE} (hu : X.A.units + 64 < cLine) (ha : XE X a da) (hb : XE X b db) (hm : behindInMarks .NotIn b = false := by rfl) : XE X (.Compare a [.NotIn] [b] pos) (dOp (vInN X.prog X.w true) da db) := xe_cmp (op_notInN hu) inN_sim ha hb hm
end
end DL

/-! DND3: get, setdefault, iteration of dicts of tuple keys of any depth. -/
namespace DL
open PySem PySem.Spec PyProof.Rows L2
section
variable {X : Cx} {o e f : Expr} {d0 da dx : DE} {pos apos cpos : Pos}
def IsN (X : Cx) (H : Hp) (a : Addr) : Prop := ∃ z es, H a = some (ndH z (ndO X.prog X.w a es))
def tNGet1 (X : Cx) (td ty : TE) : TE := fun σ H Q => td σ H fun x H1 => ∃ a, x = .ref a ∧ IsN X H1 a ∧ ty σ H1 fun y H2 => ∃ (b : Addr) (zo : Option Obj) (es : List Ent) (kw : W), y = .ref b ∧ NdV X.K X.prog X.w H2 a zo es ∧ HkW kw ∧ Rep X.K [] H2 (.ref b) kw ∧ Q ((valE es (nkW kw)).getD .non) H2
def tNGet2 (X : Cx) (td ty tx : TE) : TE := fun σ H Q => td σ H fun x H1 => ∃ a, x = .ref a ∧ IsN X H1 a ∧ ty σ H1 fun y H2 => tx σ H2 fun z H3 => ∃ (b : Addr) (zo : Option Obj) (es : List Ent) (kw : W), y = .ref b ∧ NdV X.K X.prog X.w H3 a zo es ∧ HkW kw ∧ Rep X.K [] H3 (.ref b) kw ∧ Q ((valE es (nkW kw)).getD z) H3
theorem relx_getD {k : NestedKey} {es : List Ent} {xs : List (NestedKey × Addr × Value)} {z : V} {u : Value} (h : Paired RelX es xs) (hz : RelV z u) : RelV ((valE es k).getD z) (((atKey xs k).map (·.2)).getD u) := by
  obtain ⟨f1, f2⟩ := relx_find (k := k) h
  cases c : valE es k with
  | none =>
    rw [f2 c]
    exact hz
  | some v =>
    obtain ⟨p, hp, rv⟩ := f1 v c
    rw [hp]
    exact rv
theorem pe_nget1 (hu : X.A.units + 64 < cLine) {td ty : TE} (ho : PE X o td) (he : PE X e ty) (m : M1 X o "get" apos e cpos) : PE X (.Call (.Attribute o "get" apos) [e] [] cpos) (tNGet1 X td ty) := by
  refine ⟨fun pins s σ H Q I h => ?_⟩
  refine wpAny_Call_method m.base m.few m.line PySem.F.plainAttrs_dict PySem.F.slot_dict_get PySem.F.type_dict_get (thn (ho.run pins s σ H _ I h) fun u s1 ⟨x, H1, I1, rx, a, ex, ⟨z0, es0, n0⟩, q1⟩ => ?_)
  subst ex
  obtain rfl : u = Value.ref a := rx
  obtain ⟨t1, t2⟩ := nd_type I1 n0
  refine ⟨t1, t2, ?_⟩
  rw [m.trees]
  refine Calls.callWith_builtin rfl (Calls.evalArgs_plain (Calls.spliced_cons (thn (he.run pins s1 σ H1 _ I1 q1) fun iv s2 ⟨y, H2, I2, ry, b, zo, es, kw, ey, n, hk, hr, q2⟩ => Calls.spliced_nil ?_)))
  subst ey
  obtain rfl : iv = Value.ref b := ry
  obtain ⟨xs, px, dd⟩ := n.of I2
  refine call_meetsIn PySem.F.slot_dict_get dd.typeIs PySem.F.entry_dict_get (PySem.F.args_dict_get_2 _ _) (meetsH_dict_get (nestedKind X.prog X.w) a b n.sys) ⟨show X.A.units + 1 + 8 < cLine by omega, nkW kw, xs, key_ni I2 hr hk, dd, ?_⟩
  exact ⟨_, H2, I2.tok _, relx_getD px (show RelV V.non Value.none from rfl), q2⟩
theorem pe_nget2 (hu : X.A.units + 64 < cLine) {td ty tx : TE} (ho : PE X o td) (he : PE X e ty) (hf : PE X f tx) (m : M2 X o "get" apos e f cpos) : PE X (.Call (.Attribute o "get" apos) [e, f] [] cpos) (tNGet2 X td ty tx) := by
  refine ⟨fun pins s σ H Q I h => ?_⟩
  refine wpAny_Call_method m.base m.few m.line PySem.F.plainAttrs_dict PySem.F.slot_dict_get PySem.F.type_dict_get (thn (ho.run pins s σ H _ I h) fun u s1 ⟨x, H1, I1, rx, a, ex, ⟨z0, es0, n0⟩, q1⟩ => ?_)
  subst ex
  obtain rfl : u = Value.ref a := rx
  obtain ⟨t1, t2⟩ := nd_type I1 n0
  refine ⟨t1, t2, ?_⟩
  rw [m.trees]
  refine Calls.callWith_builtin rfl (Calls.evalArgs_plain (Calls.spliced_cons (thn (he.run pins s1 σ H1 _ I1 q1) fun iv s2 ⟨y, H2, I2, ry, q2⟩ =>
    Calls.spliced_cons (thn (hf.run pins s2 σ H2 _ I2 q2) fun fv s3 ⟨z, H3, I3, rz, b, zo, es, kw, ey, n, hk, hr, q3⟩ => Calls.spliced_nil ?_))))
  subst ey
  obtain rfl : iv = Value.ref b := ry
  obtain ⟨xs, px, dd⟩ := n.of I3
  refine call_meetsIn PySem.F.slot_dict_get dd.typeIs PySem.F.entry_dict_get (PySem.F.args_dict_get_3 _ _ _) (meetsH_dict_get_default (nestedKind X.prog X.w) a b n.sys fv) ⟨show X.A.units + 1 + 8 < cLine by omega, nkW kw, xs, key_ni I3 hr hk, dd, ?_⟩
  exact ⟨_, H3, I3.tok _, relx_getD px rz, q3⟩
/-! ### as values -/
def dNGet1 (P : Program) (w : World) (d0 da : DE) : DE := fun env S Q => d0 env S fun x S1 => ∃ p, x = .ref p ∧ (∃ z kvs, S1[p]? = some (.nd P w z kvs)) ∧ da env S1 fun y S2 => ∃ z kvs, S2[p]? = some (.nd P w z kvs) ∧ HkW y ∧ Q ((valN kvs y).getD .non) S2
def dNGet2 (P : Program) (w : World) (d0 da dx : DE) : DE := fun env S Q => d0 env S fun x S1 => ∃ p, x = .ref p ∧ (∃ z kvs, S1[p]? = some (.nd P w z kvs)) ∧ da env S1 fun y S2 => dx env S2 fun u S3 => ∃ z kvs, S3[p]? = some (.nd P w z kvs) ∧ HkW y ∧ Q ((valN kvs y).getD u) S3
theorem rep_getD {K : Fg} {r : List Addr} {H : Hp} {k : W} {v : V} {w : W} {es : List Ent} {kvs : List (W × W)} (l : NdR K r H es kvs) (h : Rep K r H v w) : Rep K r H ((valE es (nkW k)).getD v) ((valN kvs k).getD w) := by
  obtain ⟨f1, f2⟩ := l.val (k := k)
  cases c : valN kvs k with
  | none =>
    rw [f2 c]
    exact h
  | some u =>
    obtain ⟨x, hx, px⟩ := f1 u c
    rw [hx]
    exact px
theorem m_nget1 (hu : X.A.units + 64 < cLine) (h0 : XE X o d0) (ha : XE X e da) (m : M1 X o "get" apos e cpos) : XE X (.Call (.Attribute o "get" apos) [e] [] cpos) (dNGet1 X.prog X.w d0 da) := by
  obtain ⟨t0, p0, s0⟩ := h0.ex
  obtain ⟨ta, pa, sa⟩ := ha.ex
  refine ⟨_, pe_nget1 hu p0 pa m, fun r H S s env Q Q0 R E d k => ?_⟩
  refine s0 r H S s env _ _ R E d fun r1 H1 S1 v w e1 R1 pv ⟨p, ew, ⟨z, kvs, hd⟩, d1⟩ => ?_
  subst ew
  cases pv with
  | @ref a _ hp =>
    obtain ⟨es, n, l⟩ := nd_at R1 hp hd
    refine ⟨a, rfl, ⟨z, es, n.obj⟩, sa r1 H1 S1 s env _ _ R1 (E.mono e1) d1 fun r2 H2 S2 v2 w2 e2 R2 pv2 ⟨z2, kvs2, hd2, hk, q⟩ => ?_⟩
    obtain ⟨es2, n2, l2⟩ := nd_at R2 (e2.pre _ _ hp) hd2
    obtain ⟨b, rfl, hr⟩ := rep_tupV pv2 hk
    exact ⟨b, z2, es2, w2, rfl, n2, hk, hr, k r2 H2 S2 _ _ (e1.trans e2) R2 (rep_getD l2 .non) q⟩
theorem m_nget2 (hu : X.A.units + 64 < cLine) (h0 : XE X o d0) (ha : XE X e da) (hx : XE X f dx) (m : M2 X o "get" apos e f cpos) : XE X (.Call (.Attribute o "get" apos) [e, f] [] cpos) (dNGet2 X.prog X.w d0 da dx) := by
  obtain ⟨t0, p0, s0⟩ := h0.ex
  obtain ⟨ta, pa, sa⟩ := ha.ex
  obtain ⟨tx, px, sx⟩ := hx.ex
  refine ⟨_, pe_nget2 hu p0 pa px m, fun r H S s env Q Q0 R E d k => ?_⟩
  refine s0 r H S s env _ _ R E d fun r1 H1 S1 v w e1 R1 pv ⟨p, ew, ⟨z, kvs, hd⟩, d1⟩ => ?_
  subst ew
  cases pv with
  | @ref a _ hp =>
    obtain ⟨es, n, l⟩ := nd_at R1 hp hd
    refine ⟨a, rfl, ⟨z, es, n.obj⟩, sa r1 H1 S1 s env _ _ R1 (E.mono e1) d1 fun r2 H2 S2 v2 w2 e2 R2 pv2 d2 => sx r2 H2 S2 s env _ _ R2 (E.mono (e1.trans e2)) d2 fun r3 H3 S3 v3 w3 e3 R3 pv3 ⟨z3, kvs3, hd3, hk, q⟩ => ?_⟩
    obtain ⟨es3, n3, l3⟩ := nd_at R3 (e3.pre _ _ (e2.pre _ _ hp)) hd3
    obtain ⟨b, rfl, hr⟩ := rep_tupV (pv2.mono e3) hk
    exact ⟨b, z3, es3, w2, rfl, n3, hk, hr, k r3 H3 S3 _ _ (e1.trans (e2.trans e3)) R3 (rep_getD l3 pv3) q⟩
/-! ### d.setdefault(k, x) -/
def tNSd (X : Cx) (td ty tx : TE) : TE := fun σ H Q => td σ H fun x H1 => ∃ a, x = .ref a ∧ IsN X H1 a ∧ ty σ H1 fun y H2 => tx σ H2 fun u H3 => ∃ (b : Addr) (es : List Ent) (kw : W), y = .ref b ∧ NdV X.K X.prog X.w H3 a none es ∧ HkW kw ∧ Rep X.K [] H3 (.ref b) kw ∧ es.length < sizeLine ∧
  (∀ v, valE es (nkW kw) = some v → Q v H3) ∧ (valE es (nkW kw) = none → Q u (upd H3 a (ndO X.prog X.w a (putE es (nkW kw) b u))))
theorem pe_nsd (hu : X.A.units + 64 < cLine) {td ty tx : TE} (ho : PE X o td) (he : PE X e ty) (hf : PE X f tx) (m : M2 X o "setdefault" apos e f cpos) : PE X (.Call (.Attribute o "setdefault" apos) [e, f] [] cpos) (tNSd X td ty tx) := by
  refine ⟨fun pins s σ H Q I h => ?_⟩
  refine wpAny_Call_method m.base m.few m.line PySem.F.plainAttrs_dict PySem.F.slot_dict_setdefault PySem.F.type_dict_setdefault (thn (ho.run pins s σ H _ I h) fun u s1 ⟨x, H1, I1, rx, a, ex, ⟨z0, es0, n0⟩, q1⟩ => ?_)
  subst ex
  obtain rfl : u = Value.ref a := rx
  obtain ⟨t1, t2⟩ := nd_type I1 n0
  refine ⟨t1, t2, ?_⟩
  rw [m.trees]
  refine Calls.callWith_builtin rfl (Calls.evalArgs_plain (Calls.spliced_cons (thn (he.run pins s1 σ H1 _ I1 q1) fun iv s2 ⟨y, H2, I2, ry, q2⟩ =>
    Calls.spliced_cons (thn (hf.run pins s2 σ H2 _ I2 q2) fun fv s3 ⟨z, H3, I3, rz, b, es, kw, ey, n, hk, hr, hl, q3, q4⟩ => Calls.spliced_nil ?_))))
  subst ey
  obtain rfl : iv = Value.ref b := ry
  obtain ⟨xs, px, dd⟩ := n.of I3
  have hlx : xs.length = es.length := by
    have z := congrArg List.length (relx_keys px)
    rwa [List.length_map, List.length_map] at z
  obtain ⟨g1, g2⟩ := relx_find (k := nkW kw) px
  refine call_setdefault_heap (show X.A.units + 1 + 8 < cLine by omega) (key_ni I3 hr hk) n.sys dd (fun p hp => ?_) (fun hn h' dd' sb => ?_) (by omega)
  · cases c : valE es (nkW kw) with
    | none => rw [g2 c] at hp; cases hp
    | some v =>
      obtain ⟨p', hp', rv⟩ := g1 v c
      rw [hp] at hp'
      cases hp'
      exact ⟨v, H3, I3.tok _, rv, q3 v c⟩
  · cases c : valE es (nkW kw) with
    | none => exact ⟨z, _, nd_write I3 n px rz dd' sb, rz, q4 c⟩
    | some v =>
      obtain ⟨p', hp', rv⟩ := g1 v c
      rw [hn] at hp'
      cases hp'
def dNSd (P : Program) (w : World) (d0 da dx : DE) : DE := fun env S Q => d0 env S fun x S1 => ∃ p, x = .ref p ∧ (∃ z kvs, S1[p]? = some (.nd P w z kvs)) ∧ da env S1 fun y S2 => dx env S2 fun u S3 => ∃ kvs, S3[p]? = some (.nd P w none kvs) ∧ HkW y ∧ kvs.length < sizeLine ∧
  match valN kvs y with
  | some v => Q v S3
  | none => Q u (S3.set p (.nd P w none (putN kvs y u)))
theorem m_nsd (hu : X.A.units + 64 < cLine) (h0 : XE X o d0) (ha : XE X e da) (hx : XE X f dx) (m : M2 X o "setdefault" apos e f cpos) : XE X (.Call (.Attribute o "setdefault" apos) [e, f] [] cpos) (dNSd X.prog X.w d0 da dx) := by
  obtain ⟨t0, p0, s0⟩ := h0.ex
  obtain ⟨ta, pa, sa⟩ := ha.ex
  obtain ⟨tx, px, sx⟩ := hx.ex
  refine ⟨_, pe_nsd hu p0 pa px m, fun r H S s env Q Q0 R E d k => ?_⟩
  refine s0 r H S s env _ _ R E d fun r1 H1 S1 v w e1 R1 pv ⟨p, ew, ⟨z, kvs, hd⟩, d1⟩ => ?_
  subst ew
  cases pv with
  | @ref a _ hp =>
    obtain ⟨es, n, l⟩ := nd_at R1 hp hd
    refine ⟨a, rfl, ⟨z, es, n.obj⟩, sa r1 H1 S1 s env _ _ R1 (E.mono e1) d1 fun r2 H2 S2 v2 w2 e2 R2 pv2 d2 => sx r2 H2 S2 s env _ _ R2 (E.mono (e1.trans e2)) d2 fun r3 H3 S3 v3 w3 e3 R3 pv3 ⟨kvs3, hd3, hk, hl, q⟩ => ?_⟩
    have hp3 := e3.pre _ _ (e2.pre _ _ hp)
    obtain ⟨es3, n3, l3⟩ := nd_at R3 hp3 hd3
    obtain ⟨b, rfl, hr⟩ := rep_tupV (pv2.mono e3) hk
    have hl2 : es3.length < sizeLine := by rw [l3.length]; exact hl
    obtain ⟨f1, f2⟩ := l3.val (k := w2)
    refine ⟨b, es3, w2, rfl, n3, hk, hr, hl2, fun v hv => ?_, fun hv => ?_⟩
    · cases c : valN kvs3 w2 with
      | none => rw [f2 c] at hv; cases hv
      | some u =>
        rw [c] at q
        obtain ⟨x, hx, px⟩ := f1 u c
        rw [hv] at hx
        cases hx
        exact k r3 H3 S3 _ _ (e1.trans (e2.trans e3)) R3 px q
    · cases c : valN kvs3 w2 with
      | some u =>
        obtain ⟨x, hx, px⟩ := f1 u c
        rw [hv] at hx
        cases hx
      | none =>
        rw [c] at q
        have ew := ext_wr (K := X.K) (u' := ndO X.prog X.w a (putE es3 (nkW w2) b v3)) hp3 n3.obj trivial
        exact k r3 _ _ _ _ ((e1.trans (e2.trans e3)).trans ew) (wr_nd R3 hp3 n3 l3 hk hr pv3 hl2) (pv3.mono ew) q
end
/-! ### a locked dict walked: its keys, its pairs -/
def ItkN (P : Program) (w : World) (d : Addr) (o : Obj) (es : List Ent) : It :=
  ⟨fun i H => H d = some (.frz o (ndO P w d es)) ∧ i < es.length, fun i H x H' => H' = H ∧ ∃ e, es[i]? = some e ∧ x = .ref e.2.1, fun i H => H d = some (.frz o (ndO P w d es)) ∧ es.length ≤ i⟩
def ItiN (P : Program) (w : World) (d : Addr) (o : Obj) (es : List Ent) : It :=
  ⟨fun i H => H d = some (.frz o (ndO P w d es)) ∧ i < es.length, fun i H x H' => ∃ T e, es[i]? = some e ∧ x = .ref T ∧ H T = none ∧ H' = upd H T (.tup [.ref e.2.1, e.2.2]), fun i H => H d = some (.frz o (ndO P w d es)) ∧ es.length ≤ i⟩
theorem nd_raw {X : Cx} {pins : List (Addr × Obj)} {σ : L2.St} {H : Hp} {s : Shared} {d : Addr} {o : Obj} {es : List Ent} {ents : Array DictEntry} {ep : Nat} (I : Inv X pins σ H s) (h : H d = some (.frz o (ndO X.prog X.w d es))) (ho : o.data = .dict ents ep) :
    s.heap.DictRaw d ents ep ∧ ents.size = es.length ∧ ∀ i (hi : i < ents.size), ∃ e, es[i]? = some e ∧ ents[i].key = .ref e.2.1 ∧ RelV e.2.2 ents[i].val := by
  obtain ⟨hg, ⟨xs, px, o', ents', ep', h1, h2, h3, h4⟩, _, _⟩ := (show ObjOk X.prog X.w H s.heap d (.frz o (ndO X.prog X.w d es)) from I.hok d _ h)
  rw [hg] at h1
  cases h1
  rw [ho] at h3
  cases h3
  have hlx : xs.length = es.length := by
    have z := congrArg List.length (relx_keys px)
    rwa [List.length_map, List.length_map] at z
  have hsz : ents.size = xs.length := by rw [← Array.length_toList, h4, List.length_map]
  refine ⟨⟨o, hg, h2, ho⟩, hsz.trans hlx, fun i hi => ?_⟩
  have hx : xs[i]? = some xs[i] := List.getElem?_eq_getElem (by omega)
  obtain ⟨e, he, re⟩ := NdV.of.paired_get px hx
  have e2 : ents.toList[i]? = some ents[i] := by rw [Array.getElem?_toList]; exact Array.getElem?_eq_getElem hi
  rw [h4, List.getElem?_map, hx] at e2
  have e3 := Option.some.inj e2
  refine ⟨e, he, ?_, ?_⟩
  · rw [← e3, re.a]
    rfl
  · rw [← e3]
    exact re.v
section
variable {P : Program} {w : World} {K : PySem.W.Frag} {tg : Expr} {d : Addr} {o : Obj} {es : List Ent} {ents : Array DictEntry} {ep : Nat}
theorem turn_keysN (it : Addr) (ho : o.data = .dict ents ep) : Turn P w K tg (ItkN P w d o es) [it] it (fun i h => h.IsKeyIter it d i ents.size ep) where
  mem := by simp
  obj := fun i h st b hb => by
    have e : b = it := by simpa using hb
    subst e
    obtain ⟨oi, e, c, dd⟩ := st
    exact ⟨oi, e, fun v z => by rw [dd] at z; cases z⟩
  keep := fun i h h' st k => st.at fun oi e => k it (by simp) oi e
  item := by
    intro X hP hw hK hc i pins s σ H E I hf st hg
    subst hP hw hK
    obtain ⟨hd, hi⟩ := hg
    obtain ⟨f0, f1, f2, f3, f4, f5⟩ := hf it (by simp)
    obtain ⟨raw, hsz, ent⟩ := nd_raw I hd ho
    have hi' : i < ents.size := by omega
    obtain ⟨e0, he0, hk0, _⟩ := ent i hi'
    refine wpAny_pyNext_keys_item_raw st raw hi' fun h' st' sb => ?_
    have I1 : Inv X pins σ H { s with heap := h' } := I.turned (t' := s.toks) (fun b ob hb e => (sb.2 b hb).trans e) f0 f1 f3 f4 f5
    obtain ⟨oi, e, c, dd⟩ := id st'
    refine ⟨_, rfl, go_of (s := { s with heap := h' }) e c dd (by decide) ⟨.ref e0.2.1, H, I1, ?_, ⟨rfl, e0, he0, rfl⟩, st', fun b hb => (hf b hb).1⟩⟩
    exact hk0
  done := by
    intro X hP hw hK hc i pins s σ H E I hf st hg
    subst hP hw hK
    obtain ⟨hd, hi⟩ := hg
    obtain ⟨f0, f1, f2, f3, f4, f5⟩ := hf it (by simp)
    obtain ⟨raw, hsz, ent⟩ := nd_raw I hd ho
    exact wpAny_pyNext_keys_end_raw (I.ok.hd hc) st raw (by omega) fun h' eb => ⟨rfl, I.turned (t' := s.toks) (fun b ob hb e => eb b ob hb e) f0 f1 f3 f4 f5⟩
  self := fun A i s Q E st h => by
    refine wpAny_pyIter_slot st.typeIs F.slot_dict_keyiterator_iter (wpAny_call_entry F.slot_dict_keyiterator_iter st.typeIs F.entry_dict_keyiterator_iter ?_ (F.args_dict_keyiterator_iter_1 _))
    show wpAny _ _ (ret (.ref it)) _ _ s
    exact wpAny_pure ⟨_, rfl, "dict_keyiterator", _, st.typeIs, F.slot_dict_keyiterator_next.lookup, h⟩
theorem turn_itemsN {elts : List Expr} {kk : Nat} {tpos : Pos} (it : Addr) (ho : o.data = .dict ents ep) : Turn P w K (.Tuple elts kk tpos) (ItiN P w d o es) [it] it (fun i h => ∃ ok ov, IsItemIter h it d i ents.size ep ok ov) where
  mem := by simp
  obj := fun i h st b hb => by
    have e : b = it := by simpa using hb
    subst e
    obtain ⟨ok, ov, e⟩ := st
    exact ⟨_, e, fun v z => nomatch z⟩
  keep := fun i h h' st k => let ⟨ok, ov, e⟩ := st; ⟨ok, ov, k it (by simp) _ e⟩
  item := by
    intro X hP hw hK hc i pins s σ H E I hf st hg
    subst hP hw hK
    obtain ⟨hd, hi⟩ := hg
    obtain ⟨raw, hsz, ent⟩ := nd_raw I hd ho
    have hi' : i < ents.size := by omega
    obtain ⟨e0, he0, hk0, hv0⟩ := ent i hi'
    obtain ⟨ok, ov, he⟩ := st
    have hlt : it < s.heap.objs.size := Heap.lt_size he
    refine wpAny_pyNext_items_item_raw he raw hi' fun h' hout hT hz hk => ?_
    refine ⟨_, rfl, wpAny_letOwnedTupleGo_items (s := { s with heap := h' }) hout fun h'' he' sb => ?_⟩
    have hT2 : h''.get? s.heap.objs.size = some { cls := .type "tuple", data := .seq #[ents[i].key, ents[i].val] } := (sb.2 _ (Nat.ne_of_gt hlt)).trans hT
    have new : ObjOk X.prog X.w (upd H s.heap.objs.size (.tup [.ref e0.2.1, e0.2.2])) h'' s.heap.objs.size (.tup [.ref e0.2.1, e0.2.2]) :=
      ⟨by show 2 ≤ sizeLine; decide, [ents[i].key, ents[i].val], .cons hk0 (.cons hv0 .nil), ⟨_, hT2, rfl, _, rfl⟩⟩
    have I1 : Inv X pins σ (upd H s.heap.objs.size (.tup [.ref e0.2.1, e0.2.2])) { s with heap := h'' } :=
      I.turnedNew (t' := s.toks) (ch := [it]) (fun b ob hb e => (sb.2 b (by simpa using hb)).trans (hk b ob (by simpa using hb) e)) hf (Nat.le_refl _) new
    refine ⟨.ref s.heap.objs.size, _, I1, rfl, ⟨_, e0, he0, rfl, I.hok.fresh (Nat.le_refl _), rfl⟩, ⟨_, _, he'⟩, fun b hb => ?_⟩
    have e : b = it := by simpa using hb
    rw [e, upd_ne (Nat.ne_of_lt hlt)]
    exact (hf it (by simp)).1
  done := by
    intro X hP hw hK hc i pins s σ H E I hf st hg
    subst hP hw hK
    obtain ⟨hd, hi⟩ := hg
    obtain ⟨f0, f1, f2, f3, f4, f5⟩ := hf it (by simp)
    obtain ⟨raw, hsz, ent⟩ := nd_raw I hd ho
    obtain ⟨ok, ov, he⟩ := st
    exact wpAny_pyNext_items_end_raw (I.ok.hd hc) he raw (by omega) fun h' eb => ⟨rfl, I.turned (t' := s.toks) (fun b ob hb e => eb b ob hb e) f0 f1 f3 f4 f5⟩
  self := fun A i s Q E st h => let ⟨_, _, e⟩ := st; PySem.W.kcp_self e h
end
/-- locked from here on -/
def tLockN (X : Cx) (J : Addr → Obj → List Ent → It) (x : V) (H1 : Hp) (R : It → Hp → Prop) : Prop := ∃ d z es, x = .ref d ∧ (d == sysModules) = false ∧ H1 d = some (ndH z (ndO X.prog X.w d es)) ∧
  match z with
  | none => ∀ o, R (J d o es) (upd H1 d (.frz o (ndO X.prog X.w d es)))
  | some o => R (J d o es) H1
theorem lock_nd {X : Cx} {pins : List (Addr × Obj)} {σ : L2.St} {H : Hp} {s : Shared} {J : Addr → Obj → List Ent → It} {x : V} {R : It → Hp → Prop} (I : Inv X pins σ H s) (h : tLockN X J x H R) :
    ∃ d o es ents ep H', x = .ref d ∧ (d == sysModules) = false ∧ Inv X pins σ H' s ∧ H' d = some (.frz o (ndO X.prog X.w d es)) ∧ o.data = .dict ents ep ∧ R (J d o es) H' := by
  obtain ⟨d, z, es, ex, hs, hd, q⟩ := h
  cases z with
  | none =>
    have hok := (show ObjOk X.prog X.w H s.heap d (ndO X.prog X.w d es) from I.hok d _ hd)
    obtain ⟨⟨xs, px, o, ents, ep, h1, h2, h3, h4⟩, _, _⟩ := id hok
    have I2 : Inv X pins σ (upd H d (.frz o (ndO X.prog X.w d es))) { s with heap := s.heap, toks := s.toks } :=
      d_write I (by rw [hd]; exact True.intro) ⟨rfl, fun _ _ => rfl⟩ ⟨o, h1⟩ (show ObjOk X.prog X.w _ s.heap d (.frz o (ndO X.prog X.w d es)) from ⟨h1, hok⟩)
    exact ⟨d, o, es, ents, ep, _, ex, hs, I2, upd_same, h3, q o⟩
  | some o =>
    obtain ⟨hg, ⟨xs, px, o', ents, ep, h1, h2, h3, h4⟩, _, _⟩ := (show ObjOk X.prog X.w H s.heap d (.frz o (ndO X.prog X.w d es)) from I.hok d _ hd)
    rw [hg] at h1
    cases h1
    exact ⟨d, o, es, ents, ep, H, ex, hs, I, hd, h3, q⟩
section
variable {X : Cx} {tg e : Expr} {td : TE} {apos cpos : Pos}
theorem pi_keysN (he : PE X e td) : PI X tg e (fun σ H R => td σ H fun x H1 => tLockN X (ItkN X.prog X.w) x H1 R) := by
  refine ⟨fun pins s σ H R I h => ?_⟩
  refine thn (he.run pins s σ H _ I h) fun u s1 ⟨x, H1, I1, rx, q0⟩ => ?_
  obtain ⟨d, o, es, ents, ep, H2, ex, hs, I2, hd, ho, q⟩ := lock_nd I1 q0
  subst ex
  obtain rfl : u = Value.ref d := rx
  obtain ⟨raw, hsz, ent⟩ := nd_raw I2 hd ho
  exact wpAny_pyIter_dict_raw hs raw (pi_one (tk := s1.toks) I2 _ (turn_keysN _ ho) ⟨_, Heap.get?_push_size _ rfl, rfl, rfl⟩ q)
theorem pi_itemsN {elts : List Expr} {kk : Nat} {tpos : Pos} (he : PE X e td) (hbase : attributeBase e "items" X.env (eval e X.env) = eval e X.env := by rfl) (hline : (apos.endLine == cpos.line) = true := by rfl) :
    PI X (.Tuple elts kk tpos) (.Call (.Attribute e "items" apos) [] [] cpos) (fun σ H R => td σ H fun x H1 => tLockN X (ItiN X.prog X.w) x H1 R) := by
  refine ⟨fun pins s σ H R I h => ?_⟩
  refine wpAny_Call_method (T := "dict") (id := "dict.items") hbase rfl hline F.plainAttrs_dict F.slot_dict_items F.type_dict_items (thn (he.run pins s σ H _ I h) fun u s1 ⟨x, H1, I1, rx, q0⟩ => ?_)
  obtain ⟨d, o, es, ents, ep, H2, ex, hs, I2, hd, ho, q⟩ := lock_nd I1 q0
  subst ex
  obtain rfl : u = Value.ref d := rx
  obtain ⟨raw, hsz, ent⟩ := nd_raw I2 hd ho
  obtain ⟨t1, t2⟩ := nd_type (z := some o) I2 hd
  refine ⟨t1, t2, ?_⟩
  have I3 : Inv X pins σ H2 { s1 with heap := s1.heap.push { cls := .type "dict_items", data := .fields #[.ref d] } } := I2.kept (t' := s1.toks) fun b ob q => Heap.get?_push_of_some _ q
  have fin : wpAny (model X.prog X.w) X.A (pyIter (.ref s1.heap.objs.size)) (PIE X pins σ (.Tuple elts kk tpos) R) X.xe { s1 with heap := s1.heap.push { cls := .type "dict_items", data := .fields #[.ref d] } } := by
    obtain ⟨raw3, _, _⟩ := nd_raw I3 hd ho
    exact wpAny_pyIter_items_raw (d := d) ⟨_, Heap.get?_push_size _ rfl, rfl, rfl⟩ raw3 (pi_one (tk := s1.toks) I3 _ (turn_itemsN _ ho) ⟨.none, .none, Heap.get?_push_size _ rfl⟩ q)
  show wpAny _ _ (callWith cpos (.builtin "dict.items") [.ref d] [] []) _ X.xe s1
  exact method_meetsIn F.slot_dict_items F.entry_dict_items rfl (PySem.evalArgs_none ⟨rfl, t1, F.args_dict_items_1 _, _, meets_dict_items_raw d hs, ⟨_, _, raw⟩, fin⟩)
/-! ### as values -/
def iLockN (P : Program) (w : World) (f : W × W → W) (d : DE) : DI := fun env S Q => d env S fun x S1 => ∃ p z kvs, x = .ref p ∧ S1[p]? = some (.nd P w z kvs) ∧ ∀ o, Q (kvs.map f) (fun _ => True) (S1.set p (.nd P w (some o) kvs))
theorem ndR_get {K : Fg} {r : List Addr} {H : Hp} : ∀ {es : List Ent} {kvs : List (W × W)} {i : Nat} {kv : W × W}, NdR K r H es kvs → kvs[i]? = some kv → ∃ e, es[i]? = some e ∧ Rep K [] H (.ref e.2.1) kv.1 ∧ Rep K r H e.2.2 kv.2
  | _, _, _, _, .nil, h => by simp at h
  | _, _, 0, _, .cons _ _ a b _, h => by
    cases Option.some.inj h
    exact ⟨_, rfl, a, b⟩
  | _, _, i + 1, _, .cons _ _ _ _ t, h => ndR_get (i := i) t (by simpa using h)
theorem set_same {S : Sto} {p : Nat} {o : O} (h : S[p]? = some o) : S.set p o = S := by
  obtain ⟨hl, e⟩ := List.getElem?_eq_some_iff.mp h
  rw [← e]
  exact List.set_getElem_self hl
theorem lock_sim {J : Addr → Obj → List Ent → It} {f : W × W → W} {P : Program} {w : World} (hP : P = X.prog) (hw : w = X.w) {r : List Addr} {H : Hp} {S : Sto} {v : V} {x : W} {Q : List W → (Sto → Prop) → Sto → Prop} {Q0 : It → Hp → Prop} (R : RelS X.K r H S) (pv : Rep X.K r H v x)
    (ok : ∀ d o es kvs r1 H1 S1, RelS X.K r1 H1 S1 → H1 d = some (.frz o (ndO X.prog X.w d es)) → NdR X.K r1 H1 es kvs → ItOk X.K (J d o es) (kvs.map f) (fun _ => True) r1 H1)
    (g : ∃ p z kvs, x = .ref p ∧ S[p]? = some (.nd P w z kvs) ∧ ∀ o, Q (kvs.map f) (fun _ => True) (S.set p (.nd P w (some o) kvs)))
    (k : ∀ r' H' S' J its still, Ext X.K r H r' H' → RelS X.K r' H' S' → ItOk X.K J its still r' H' → Q its still S' → Q0 J H') : tLockN X J v H Q0 := by
  subst hP hw
  obtain ⟨p, z, kvs, rfl, hp, q⟩ := g
  cases pv with
  | @ref a _ ha =>
    obtain ⟨es, n, l⟩ := nd_at R ha hp
    refine ⟨a, z, es, rfl, n.sys, n.obj, ?_⟩
    cases z with
    | none =>
      intro o
      have ew := ext_wr (K := X.K) (u' := .frz o (ndO X.prog X.w a es)) ha n.obj trivial
      have l2 := l.mono' ew.toKp
      obtain ⟨h4, h6, h7, h8⟩ := l2.out
      have R2 : RelS X.K r (upd H a (.frz o (ndO X.prog X.w a es))) (S.set p (.nd X.prog X.w (some o) kvs)) :=
        rel_wr R ha n.obj trivial ⟨_, upd_same, n.sys, n.len, h4, n.nd, h6, h7, h8⟩
      exact k r _ _ _ _ _ ew R2 (ok a o es kvs r _ _ R2 upd_same l2) (q o)
    | some o =>
      have q2 := q o
      rw [set_same hp] at q2
      exact k r H S _ _ _ .refl R (ok a o es kvs r H S R n.obj l) q2
theorem mapKv_get {f : W × W → W} {kvs : List (W × W)} {i : Nat} {x : W} (h : (kvs.map f)[i]? = some x) : ∃ kv, kvs[i]? = some kv ∧ x = f kv := by
  rw [List.getElem?_map] at h
  cases c : kvs[i]? with
  | none => rw [c] at h; cases h
  | some kv => rw [c] at h; exact ⟨kv, rfl, (Option.some.inj h).symm⟩
theorem xi_keysN {d : DE} (he : XE X e d) : XI X tg e (iLockN X.prog X.w (·.1) d) := by
  obtain ⟨t0, p0, s0⟩ := he.ex
  refine ⟨_, pi_keysN p0, fun r H S st env Q Q0 R E g k => ?_⟩
  refine s0 r H S st env _ _ R E g fun r1 H1 S1 v x e1 R1 pv d1 => ?_
  refine lock_sim rfl rfl R1 pv (fun d o es kvs r2 H2 S2 R2 hd l => ?_) d1 fun r' H' S' J its still e' => k r' H' S' J its still (e1.trans e')
  refine ⟨fun r' H' S' i x e' R' _ hx => ?_, fun r' H' S' i e' R' _ hl => ⟨e'.frz _ _ _ hd, by rw [l.length]; rwa [List.length_map] at hl⟩⟩
  obtain ⟨kv, hkv, rfl⟩ := mapKv_get hx
  obtain ⟨e0, he0, a, b⟩ := ndR_get l hkv
  refine ⟨⟨e'.frz _ _ _ hd, (List.getElem?_eq_some_iff.mp he0).1⟩, fun v H3 hy => ?_⟩
  obtain ⟨rfl, e2, he2, rfl⟩ := hy
  rw [he0] at he2
  cases he2
  exact ⟨.refl, R', rep_any (a.mono' ⟨fun _ _ h => (by cases h), e'.tup, e'.frz⟩)⟩
theorem xi_itemsN {elts : List Expr} {kk : Nat} {tpos : Pos} {d : DE} (he : XE X e d) (hbase : attributeBase e "items" X.env (eval e X.env) = eval e X.env := by rfl) (hline : (apos.endLine == cpos.line) = true := by rfl) :
    XI X (.Tuple elts kk tpos) (.Call (.Attribute e "items" apos) [] [] cpos) (iLockN X.prog X.w (fun kv => .tup [kv.1, kv.2]) d) := by
  obtain ⟨t0, p0, s0⟩ := he.ex
  refine ⟨_, pi_itemsN p0 hbase hline, fun r H S st env Q Q0 R E g k => ?_⟩
  refine s0 r H S st env _ _ R E g fun r1 H1 S1 v x e1 R1 pv d1 => ?_
  refine lock_sim rfl rfl R1 pv (fun d o es kvs r2 H2 S2 R2 hd l => ?_) d1 fun r' H' S' J its still e' => k r' H' S' J its still (e1.trans e')
  refine ⟨fun r' H' S' i x e' R' _ hx => ?_, fun r' H' S' i e' R' _ hl => ⟨e'.frz _ _ _ hd, by rw [l.length]; rwa [List.length_map] at hl⟩⟩
  obtain ⟨kv, hkv, rfl⟩ := mapKv_get hx
  obtain ⟨e0, he0, a, b⟩ := ndR_get l hkv
  refine ⟨⟨e'.frz _ _ _ hd, (List.getElem?_eq_some_iff.mp he0).1⟩, fun v H3 hy => ?_⟩
  obtain ⟨T, e2, he2, rfl, hT, rfl⟩ := hy
  rw [he0] at he2
  cases he2
  exact pair_ok R' hT (rep_any (a.mono' ⟨fun _ _ h => (by cases h), e'.tup, e'.frz⟩)) (b.mono' e')
end
end DL

/-! DND4: dict comprehensions whose keys are tuples of any depth. -/
namespace DL
open PySem PySem.Spec PyProof.Rows L2
/-- d[k] = v by a comprehension -/
theorem d_dictSetN {X : Cx} {pins : List (Addr × Obj)} {σ : L2.St} {H : Hp} {s : Shared} {E : Value → Shared → Prop} {D b : Addr} {es : List Ent} {kw : W} {v : V} {r : Value} {Q : Unit → Shared → Prop} (hu : X.A.units + 64 < cLine) (I : Inv X pins σ H s) (n : NdV X.K X.prog X.w H D none es) (hk : HkW kw) (hr : Rep X.K [] H (.ref b) kw)
    (hl : es.length < sizeLine) (rv : RelV v r) (h : ∀ s', Inv X pins σ (upd H D (ndO X.prog X.w D (putE es (nkW kw) b v))) s' → Q () s') : wpAny (model X.prog X.w) X.A (dictSet D (.ref b) r) Q E s := by
  obtain ⟨xs, px, dd⟩ := n.of I
  have hlx : xs.length = es.length := by
    have z := congrArg List.length (relx_keys px)
    rwa [List.length_map, List.length_map] at z
  exact wpAny_dictSet_heap (show X.A.units + 8 < cLine by omega) (key_ni I hr hk) dd (fun h' dd' sb => h _ (nd_write I n px rv dd' sb)) (by omega)
section
variable {X : Cx}
def tDcN (X : Cx) (wi : TI) (g : TG) (tt : TT) (tk tv : TE) (vs : List Nat) : TE := fun σ H Q => wi σ H fun J H1 => ∀ D, H1 D = none → (D == sysModules) = false → ∃ W : Nat → Nat → Hp → Prop, (∃ m, W 0 m (upd H1 D (ndO X.prog X.w D []))) ∧ ∀ i m H, W i m H →
  (J.stop i H ∧ Q (.ref D) H) ∨ (J.go i H ∧ ∃ Nx : Hp → Prop, (∀ H', Nx H' → ∃ m', m' < m ∧ W (i + 1) m' H') ∧ ∀ x H', J.yld i H x H' → g x (wipe σ vs) H' fun σ2 H2 => wipe σ2 vs = wipe σ vs ∧ tt σ2 H2 fun b H3 =>
    if b = true then tk σ2 H3 fun y H4 => tv σ2 H4 fun z H5 => ∃ (b : Addr) (es : List Ent) (kw : DL.W), y = .ref b ∧ NdV X.K X.prog X.w H5 D none es ∧ HkW kw ∧ Rep X.K [] H5 (.ref b) kw ∧ es.length < sizeLine ∧ Nx (upd H5 D (ndO X.prog X.w D (putE es (nkW kw) b z))) else Nx H3)
theorem dc_coreN (hu : X.A.units + 64 < cLine) {pins : List (Addr × Obj)} {s : Shared} {σ : L2.St} {H : Hp} {Q : VK} {kx vx tg iter : Expr} {ifs : List Expr} {scope : Scope} {own : List (Str × Nat)} {pos pos' : Pos} {wi : TI} {g : TG} {tt : TT} {tk tv : TE} {use : Option (Value → Sem Unit)} {Qf : Value → Shared → Prop}
    (hc : X.calm = true) (hN : X.N.Nodup) (I : Inv X pins σ H s) (hi : PI X tg iter wi) (ok : BlkOk X.N X.env.scope scope own)
    (hg : ∀ (s : Shared) (H : Hp) (C : Addr) (cl : List (Str × Addr)) (fp : List Addr), PG (X.blk s H scope (compEnvC scope cl C X.env) fp) tg g) (ht : ∀ (s : Shared) (H : Hp) (C : Addr) (cl : List (Str × Addr)) (fp : List Addr), PTs (X.blk s H scope (compEnvC scope cl C X.env) fp) ifs tt)
    (hk : ∀ (s : Shared) (H : Hp) (C : Addr) (cl : List (Str × Addr)) (fp : List Addr), PE (X.blk s H scope (compEnvC scope cl C X.env) fp) kx tk)
    (he : ∀ (s : Shared) (H : Hp) (C : Addr) (cl : List (Str × Addr)) (fp : List Addr), PE (X.blk s H scope (compEnvC scope cl C X.env) fp) vx tv) (hs : ∀ x, foldedSetIterable iter X.env x = pure x)
    (h : tDcN X wi g tt tk tv (own.map (·.2)) σ H Q)
    (hRR : ∀ D C s' m H', Inv X pins σ H' s' → Q (.ref D) H' → s'.heap.Ns C m → FpOk X pins H' C → compPost (model X.prog X.w) X.A X.xe use Qf (.ref D) C (.ok .next) s') :
    wpAny (model X.prog X.w) X.A (comprehension (.DictComp kx vx [⟨tg, iter, ifs, 0⟩] scope pos) scope X.env pos' newDict false (eval iter X.env) use) Qf X.xe s := by
  have hfree : ∀ y ∈ scope.names, y.2 = .free → ∃ c, X.env.cells.lookup y.1 = some c := fun y hy e => by
    rcases ok.free y hy e with k | k
    · exact I.ok.has _ (.inl k)
    · exact I.ok.has _ (.inr k)
  refine wpAny_comprehension_free (use := use) rfl hs (closure_ok hfree) ok.kind (fun y hy e => by rw [ok.uniq y hy, e])
    (thn (hi.run pins s σ H _ I h) fun xv s1 hx => thn hx fun itv s2 h2 => ?_)
  obtain ⟨it, fp, tn, J, H2, e, I2, T, st2, f2, q⟩ := h2
  subst e
  refine wpAny_newObj_type (newEnv_comp ?_)
  generalize hD : s2.heap.objs.size = D
  have hDn : H2 D = none := I2.hok.fresh (Nat.le_of_eq hD)
  obtain ⟨W, ⟨m0, w0⟩, turn⟩ := q D hDn (beq_eq_false_iff_ne.mpr (Nat.ne_of_gt (by rw [← hD]; exact I2.big)))
  -- the new list
  generalize hs3 : ({ s2 with heap := s2.heap.push { cls := .type "dict", data := .dict #[] } } : Shared) = s3
  have I3 : Inv X pins σ (upd H2 D (ndO X.prog X.w D [])) s3 := by
    rw [← hs3]
    refine I2.laid (t' := s2.toks) (fun b o e => Heap.get?_push_of_some _ e) (Nat.le_of_eq hD) ?_
    rw [← hD]
    exact ndO_ok .nil (Heap.DictOfH.new s2.heap)
  have h3 : s3.heap = s2.heap.push { cls := .type "dict", data := .dict #[] } := by rw [← hs3]
  have sz : ∀ b ∈ fp, b < s2.heap.objs.size := fun b hb => by
    obtain ⟨o, e, _⟩ := T.obj _ _ st2 b hb
    exact Heap.lt_size e
  have f3 : ∀ b ∈ fp, FpOk X pins (upd H2 D (ndO X.prog X.w D [])) b ∧ b < s3.heap.objs.size := fun b hb => by
    have hlt := sz b hb
    refine ⟨⟨?_, (f2 b hb).2⟩, by rw [h3, Heap.size_push]; exact Nat.lt_succ_of_lt hlt⟩
    rw [upd_ne (by rw [← hD]; exact Nat.ne_of_lt hlt)]
    exact (f2 b hb).1
  have st3 : tn 0 s3.heap := T.keep _ _ _ st2 fun b _ o e => by rw [h3]; exact Heap.get?_push_of_some _ e
  have I4 := block_start I3 ok hN f3
  have pg := hg s3 (upd H2 D (ndO X.prog X.w D [])) s3.heap.objs.size (cellsFrom (s3.heap.objs.size + 1) scope.names (cloFrom X.env.cells scope.names [])) fp
  have pt := ht s3 (upd H2 D (ndO X.prog X.w D [])) s3.heap.objs.size (cellsFrom (s3.heap.objs.size + 1) scope.names (cloFrom X.env.cells scope.names [])) fp
  have pk := hk s3 (upd H2 D (ndO X.prog X.w D [])) s3.heap.objs.size (cellsFrom (s3.heap.objs.size + 1) scope.names (cloFrom X.env.cells scope.names [])) fp
  have pe := he s3 (upd H2 D (ndO X.prog X.w D [])) s3.heap.objs.size (cellsFrom (s3.heap.objs.size + 1) scope.names (cloFrom X.env.cells scope.names [])) fp
  show codeAny _ _ (.compStart (.DictComp kx vx [⟨tg, iter, ifs, 0⟩] scope pos) 0 (.ref it) (.ref D) (compEnvC scope (cellsFrom (s3.heap.objs.size + 1) scope.names (cloFrom X.env.cells scope.names [])) s3.heap.objs.size X.env)) (compPost (model X.prog X.w) X.A X.xe use Qf (.ref D) s3.heap.objs.size) { s3 with heap := pushCells (s3.heap.push { cls := .type "dict", data := .dict #[] }) scope.names }
  have nfp : ∀ b ∈ fp, (upd H2 D (ndO X.prog X.w D [])) b = none := fun b hb => (f3 b hb).1.1
  generalize hce : compEnvC scope (cellsFrom (s3.heap.objs.size + 1) scope.names (cloFrom X.env.cells scope.names [])) s3.heap.objs.size X.env = ce at I4 pg pt pk pe ⊢
  have cL : ce.locals = s3.heap.objs.size := by subst hce; rfl
  generalize hH3 : upd H2 D (ndO X.prog X.w D []) = H3 at I3 I4 pg pt pk pe w0 nfp f3
  generalize hs4 : ({ s3 with heap := pushCells (s3.heap.push { cls := .type "dict", data := .dict #[] }) scope.names } : Shared) = s4 at I4 ⊢
  have st4 : tn 0 s4.heap := T.keep _ _ _ st3 fun b _ o e => by rw [← hs4]; exact pushCells_keeps _ _ _ _ (Heap.get?_push_of_some _ e)
  have stat : ∀ {σ' : L2.St} {H' : Hp} {s' : Shared}, Inv (X.blk s3 H3 scope ce fp) [] σ' H' s' → (∀ b ∈ fp, H' b = none) → ∀ b ∈ fp, FpOk (X.blk s3 H3 scope ce fp) [] H' b := fun {σ' H' s'} I' hn b hb =>
    ⟨hn b hb, (I'.ok.exf b hb).1, I'.ok.exfs b hb, .inl hb, fun x c e => (I'.ok.exf b hb).2 x c e, fun p hp => absurd (show p ∈ ([] : List (Addr × Obj)) ++ [] from hp) (by simp)⟩
  have loop : codeAny (model X.prog X.w) X.A (.compLoop (.DictComp kx vx [⟨tg, iter, ifs, 0⟩] scope pos) 0 (.ref it) (.ref D) ce) (compPost (model X.prog X.w) X.A X.xe use Qf (.ref D) s3.heap.objs.size) s4 := by
    refine compLoop_anyD (fun n s' => ∃ i H', Inv (X.blk s3 H3 scope ce fp) [] (wipe σ (own.map (·.2))) H' s' ∧ tn i s'.heap ∧ (∀ b ∈ fp, H' b = none) ∧ W i n H') ?_ m0 ⟨0, H3, I4, st4, nfp, w0⟩
    rintro n s5 ⟨i, H5, I5, st5, n5, w5⟩
    rcases turn i n H5 w5 with ⟨stop, qq⟩ | ⟨go, Nx, hNx, step⟩
    · have td := T.done (X.blk s3 H3 scope ce fp) rfl rfl rfl hc i [] s5 _ H5 (fun _ _ => False) I5 (stat I5 n5) st5 stop
      refine thnF td fun r s6 ⟨hr, I6⟩ => ?_
      subst hr
      -- back in the def's context
      have I7 : Inv X pins σ H5 s6 := I3.call' (ch := fp) I6.os I6.base I6.hok I6.bare fun b hb => ⟨(f3 b hb).1.2.2.2.1, (f3 b hb).1.2.1, (f3 b hb).1.2.2.2.2.1, (f3 b hb).1.2.2.2.2.2⟩
      have nC : H5 s3.heap.objs.size = none := by
        have z : H5 ce.locals = none := I6.free
        rw [cL] at z
        exact z
      obtain ⟨m, hn, _⟩ := I6.loc
      have hn : s6.heap.Ns ce.locals m := hn
      rw [cL] at hn
      exact hRR D s3.heap.objs.size s6 m H5 I7 qq hn (I3.fpOk (Nat.le_refl _) nC)
    · have ti := T.item (X.blk s3 H3 scope ce fp) rfl rfl rfl hc i [] s5 _ H5 (fun _ _ => False) I5 (stat I5 n5) st5 go
      refine thnF ti fun r s6 ⟨u, hr, h6⟩ => ?_
      subst hr
      refine thnF h6 fun _ s7 ⟨x, H7, I7, r7, y7, st7, n7⟩ => ?_
      have I7' := I7.pinned (stat I7 n7) (T.obj _ _ st7)
      refine thnF (pg.run _ s7 _ H7 x u _ I7' r7 (step x H7 y7)) fun _ s8 ⟨σ8, H8, I8, hw8, q8⟩ => ?_
      refine thnF (pt.run _ s8 σ8 H8 _ I8 q8) fun b s9 ⟨H9, I9, q9⟩ => ?_
      -- the turn's end
      have fin : ∀ {s' : Shared} {H' : Hp}, Inv (X.blk s3 H3 scope ce fp) ([] ++ pinsAt fp s7.heap) σ8 H' s' → Nx H' → ∃ m, m < n ∧ ∃ i H', Inv (X.blk s3 H3 scope ce fp) [] (wipe σ (own.map (·.2))) H' s' ∧ tn i s'.heap ∧ (∀ b ∈ fp, H' b = none) ∧ W i m H' := fun {s' H'} I' nx => by
        obtain ⟨m', hm, w'⟩ := hNx H' nx
        have pin' : ∀ b ∈ fp, ∀ o, s7.heap.get? b = some o → s'.heap.get? b = some o ∧ H' b = none := fun b hb o e =>
          let z := I'.pin (b, o) (List.mem_append_right _ (List.mem_append_right _ (mem_pinsAt hb e)))
          ⟨z.1, z.2.1⟩
        have hl : (wipe σ (own.map (·.2))).length = σ8.length := by rw [← hw8, wipe_length]
        refine ⟨m', hm, i + 1, H', (I'.unpinned (pins := [])).weak hl (fun j v e => ?_), T.keep _ _ _ st7 fun b hb o e => (pin' b hb o e).1, fun b hb => ?_, w'⟩
        · rw [← hw8] at e
          exact (wipe_some e).1
        · obtain ⟨o, e, _⟩ := T.obj _ _ st7 b hb
          exact (pin' b hb o e).2
      cases b with
      | false =>
        simp only [Bool.false_eq_true, if_false] at q9 ⊢
        exact fin I9 q9
      | true =>
        simp only [if_true] at q9 ⊢
        refine thnF (pk.run _ s9 σ8 H9 _ I9 q9) fun z s10 ⟨yk, H10, I10, r10, q10⟩ => ?_
        refine thnF (pe.run _ s10 σ8 H10 _ I10 q10) fun z2 s11 ⟨yv, H11, I11, r11, b, es, kw, ek, n11, hk, hr, hz11, nx⟩ => ?_
        subst ek
        obtain rfl : z = Value.ref b := r10
        exact d_dictSetN (X := X.blk s3 H3 scope ce fp) hu I11 n11 hk hr hz11 r11 fun s12 I12 => fin I12 nx
  exact codeAny_compStart_dict loop (T.self X.A 0 _ _ _ st4 loop)
/-- as a value -/
theorem pe_dcN (hu : X.A.units + 64 < cLine) {kx vx tg iter : Expr} {ifs : List Expr} {scope : Scope} {own : List (Str × Nat)} {pos : Pos} {wi : TI} {g : TG} {tt : TT} {tk tv : TE} (hc : X.calm = true) (hN : X.N.Nodup) (hi : PI X tg iter wi) (ok : BlkOk X.N X.env.scope scope own)
    (hg : ∀ (s : Shared) (H : Hp) (C : Addr) (cl : List (Str × Addr)) (fp : List Addr), PG (X.blk s H scope (compEnvC scope cl C X.env) fp) tg g) (ht : ∀ (s : Shared) (H : Hp) (C : Addr) (cl : List (Str × Addr)) (fp : List Addr), PTs (X.blk s H scope (compEnvC scope cl C X.env) fp) ifs tt)
    (hk : ∀ (s : Shared) (H : Hp) (C : Addr) (cl : List (Str × Addr)) (fp : List Addr), PE (X.blk s H scope (compEnvC scope cl C X.env) fp) kx tk)
    (he : ∀ (s : Shared) (H : Hp) (C : Addr) (cl : List (Str × Addr)) (fp : List Addr), PE (X.blk s H scope (compEnvC scope cl C X.env) fp) vx tv) (hs : ∀ x, foldedSetIterable iter X.env x = pure x := by intro _; rfl) :
    PE X (.DictComp kx vx [⟨tg, iter, ifs, 0⟩] scope pos) (tDcN X wi g tt tk tv (own.map (·.2))) := by
  refine ⟨fun pins s σ H Q I h => ?_⟩
  rw [arm_eval_DictComp]
  refine dc_coreN hu hc hN I hi ok hg ht hk he hs h fun D C s' m H' I' q hn f => ⟨m, hn, fun h'' sb => ?_⟩
  obtain ⟨f0, f1, f2, f3, f4, f5⟩ := f
  exact ⟨.ref D, H', I'.turned (t' := s'.toks) (fun b o hb e => (sb.2 b hb).trans e) f0 f1 f3 f4 f5, rfl, q⟩
end
/-! ### as a value -/
theorem RelS.joinN {K : Fg} {r : List Addr} {H : Hp} {S : Sto} (R : RelS K r H S) {D : Addr} {o : O} (n : D ∉ r) (x : RelO K (r ++ [D]) H D o) : RelS K (r ++ [D]) H (S ++ [o]) := by
  refine ⟨by rw [List.length_append, List.length_append, R.len]; rfl, ?_, fun i a ob ha hs => ?_⟩
  · rw [List.nodup_append]
    refine ⟨R.nd, List.nodup_cons.mpr ⟨List.not_mem_nil, List.nodup_nil⟩, fun a ha b hb e => ?_⟩
    rw [List.mem_singleton.mp hb] at e
    exact n (e ▸ ha)
  · by_cases l' : i < r.length
    · rw [List.getElem?_append_left l'] at ha
      rw [List.getElem?_append_left (by rw [← R.len]; exact l')] at hs
      exact relO_mono' Kp.join rfl (R.obj i a ob ha hs)
    · rw [List.getElem?_append_right (Nat.le_of_not_lt l')] at ha
      rw [List.getElem?_append_right (by rw [← R.len]; exact Nat.le_of_not_lt l'), ← R.len] at hs
      cases e : i - r.length with
      | zero =>
        rw [e] at ha hs
        cases Option.some.inj ha
        cases Option.some.inj hs
        exact x
      | succ n =>
        rw [e] at ha
        simp at ha
def dictWN (P : Program) (w : World) (g : DG) (tt : DT) (tk tv : DE) (vs : List Nat) (still : Sto → Prop) (env : Slots) (Q : WK) : List W → List (W × W) → Sto → Prop
  | [], acc, S => still S ∧ Q (.ref S.length) (S ++ [.nd P w none acc])
  | x :: r, acc, S => still S ∧ g x (wipeW env vs) S fun env2 S2 => tt env2 S2 fun b S3 => if b = true then tk env2 S3 fun y S4 => tv env2 S4 fun z S5 => HkW y ∧ acc.length < sizeLine ∧ dictWN P w g tt tk tv vs still env Q r (putN acc y z) S5
      else dictWN P w g tt tk tv vs still env Q r acc S3
def dDictCN (P : Program) (w : World) (di : DI) (g : DG) (tt : DT) (tk tv : DE) (vs : List Nat) : DE := fun env S Q => di env S fun its still S1 => dictWN P w g tt tk tv vs still env Q its [] S1
/-- the dict under way -/
def AccN (K : Fg) (P : Program) (w : World) (r : List Addr) (H : Hp) (D : Addr) (acc : List (W × W)) : Prop := ∃ es, NdV K P w H D none es ∧ NdR K r H es acc
theorem AccN.kp {K : Fg} {P : Program} {w : World} {r r' : List Addr} {H H' : Hp} {D : Addr} {acc : List (W × W)} (x : AccN K P w r H D acc) (e : Kp K r H r' H') (h : ∀ u, H D = some u → H' D = some u) : AccN K P w r' H' D acc := by
  obtain ⟨es, n, l⟩ := x
  have l2 := l.mono' e
  exact ⟨es, ⟨h _ n.obj, n.sys, n.len, n.nd, ndR_key l2⟩, l2⟩
theorem sim_dictCN {X : Cx} {wi : TI} {tg : TG} {tt : TT} {tk tv : TE} {di : DI} {g : DG} {dt : DT} {dk dv : DE} {vs : List Nat} (si : SimI X.K wi di) (sg : SimG X.K tg g) (og : OwnG tg vs) (st : SimT X.K tt dt) (sk : Sim X.K tk dk) (sv : Sim X.K tv dv) : Sim X.K (tDcN X wi tg tt tk tv vs) (dDictCN X.prog X.w di g dt dk dv vs) := by
  intro r H S s env Q Q0 R E d k
  refine si r H S s env _ _ R E d fun r1 H1 S1 J its still e1 R1 ok d1 => ?_
  intro Dl hD hsys
  have nD := R1.notin hD
  have a0 : AccN X.K X.prog X.w r1 (upd H1 Dl (ndO X.prog X.w Dl [])) Dl [] := ⟨[], ⟨upd_same, hsys, Nat.zero_le _, List.nodup_nil, fun _ h => nomatch h⟩, .nil⟩
  refine ⟨fun i m H' => i + m = its.length ∧ ∃ r' S' acc, Ext X.K r1 H1 r' H' ∧ RelS X.K r' H' S' ∧ Dl ∉ r' ∧ AccN X.K X.prog X.w r' H' Dl acc ∧ dictWN X.prog X.w g dt dk dv vs still env Q (its.drop i) acc S',
    ⟨its.length, by omega, r1, S1, [], ext_new hD, rel_new R1 hD, nD, a0, d1⟩, ?_⟩
  rintro i m H' ⟨hm, r', S', acc, e', R', n', A', d'⟩
  cases hx : its[i]? with
  | none =>
    have hle : its.length ≤ i := List.getElem?_eq_none_iff.mp hx
    rw [List.drop_of_length_le hle] at d'
    obtain ⟨hst, d'⟩ := d'
    refine .inl ⟨ok.stop r' H' S' i e'.toKp R' hst hle, ?_⟩
    obtain ⟨es, n, l⟩ := A'
    have l2 := l.mono' (Kp.join (D := Dl))
    obtain ⟨h4, h6, h7, h8⟩ := l2.out
    exact k _ H' _ _ _ (e1.trans (e'.join hD)) (R'.joinN n' (o := .nd X.prog X.w none acc) ⟨es, n.obj, n.sys, n.len, h4, n.nd, h6, h7, h8⟩) (rep_mem R') d'
  | some x =>
    obtain ⟨hlt, ex⟩ := List.getElem?_eq_some_iff.mp hx
    rw [List.drop_eq_getElem_cons hlt, ex] at d'
    obtain ⟨hst, d'⟩ := d'
    obtain ⟨go, yl⟩ := ok.go r' H' S' i x e'.toKp R' hst hx
    refine .inr ⟨go, fun H3 => ∃ r' S' acc, Ext X.K r1 H1 r' H3 ∧ RelS X.K r' H3 S' ∧ Dl ∉ r' ∧ AccN X.K X.prog X.w r' H3 Dl acc ∧ dictWN X.prog X.w g dt dk dv vs still env Q (its.drop (i + 1)) acc S', fun H3 h3 => ⟨m - 1, by omega, by omega, h3⟩, fun v H3 hy => ?_⟩
    obtain ⟨e3, R3, q3⟩ := yl v H3 hy
    have e13 := e'.trans e3
    have hl' : ∃ u, H' Dl = some u := let ⟨es, n, _⟩ := A'; ⟨_, n.obj⟩
    obtain ⟨u0, hu0⟩ := hl'
    obtain ⟨n3, hl3⟩ := e3.apart n' hu0
    have A3 : AccN X.K X.prog X.w r' H3 Dl acc := A'.kp e3.toKp fun u q => by rw [hu0] at q; cases q; exact hl3
    have E3 := (E.mono (e1.trans e13)).wipe vs
    refine og v (wipe s vs) H3 _ _ (wipe s vs) rfl (sg r' H3 S' (wipe s vs) (wipeW env vs) v x _ (fun s4 H4 => ∃ r4 S4 env4, Ext X.K r' H3 r4 H4 ∧ RelS X.K r4 H4 S4 ∧ RepE X.K r4 H4 s4 env4 ∧ dt env4 S4 fun b S5 => if b = true then dk env4 S5 fun y S6 => dv env4 S6 fun z S7 => HkW y ∧ acc.length < sizeLine ∧ dictWN X.prog X.w g dt dk dv vs still env Q (its.drop (i + 1)) (putN acc y z) S7 else dictWN X.prog X.w g dt dk dv vs still env Q (its.drop (i + 1)) acc S5) R3 E3 q3 d' fun r4 H4 S4 s4 env4 e4 R4 E4 d4 => ⟨r4, S4, env4, e4, R4, E4, d4⟩) fun s4 H4 hw h4 => ?_
    obtain ⟨r4, S4, env4, e4, R4, E4, d4⟩ := h4
    refine ⟨by rw [hw, wipe_wipe], ?_⟩
    refine st r4 H4 S4 s4 env4 _ _ R4 E4 d4 fun r5 H5 S5 b e5 R5 d5 => ?_
    have e15 := (e13.trans e4).trans e5
    have e35 := e4.trans e5
    obtain ⟨n5, hl5⟩ := e35.apart n3 hl3
    have A5 : AccN X.K X.prog X.w r5 H5 Dl acc := A3.kp e35.toKp fun u q => by rw [hl3] at q; cases q; exact hl5
    cases b with
    | true =>
      rw [if_pos rfl] at d5 ⊢
      refine sk r5 H5 S5 s4 env4 _ _ R5 (E4.mono e5) d5 fun r6 H6 S6 y w e6 R6 q6 d6 => ?_
      refine sv r6 H6 S6 s4 env4 _ _ R6 (E4.mono (e5.trans e6)) d6 fun r7 H7 S7 z wz e7 R7 q7 d7 => ?_
      obtain ⟨hk, few, d7⟩ := d7
      obtain ⟨n7, hl7⟩ := (e6.trans e7).apart n5 hl5
      obtain ⟨es, n, l⟩ : AccN X.K X.prog X.w r7 H7 Dl acc := A5.kp (e6.trans e7).toKp fun u q => by rw [hl5] at q; cases q; exact hl7
      obtain ⟨b, rfl, hr⟩ := rep_tupV (q6.mono e7) hk
      have hsoft : Soft (ndO X.prog X.w Dl es) := trivial
      have l2 := (l.put hk hr q7).mono' (Kp.hid (r := r7) (o := ndO X.prog X.w Dl (putE es (nkW w) b z)) n.obj hsoft)
      refine ⟨b, es, w, rfl, n, hk, hr, by rw [l.length]; exact few, r7, S7, putN acc w wz, ((e15.trans e6).trans e7).hid hD n.obj hsoft, R7.hid n7 n.obj hsoft, n7, ⟨_, ⟨upd_same, n.sys, ?_, key_nodup_put n.nd, ndR_key l2⟩, l2⟩, d7⟩
      have := putE_len es (nkW w) b z
      have := l.length
      omega
    | false =>
      rw [if_neg Bool.false_ne_true] at d5 ⊢
      exact ⟨r5, S5, acc, e15, R5, n5, A5, d5⟩
section
variable {X : Cx} {pos : Pos}
theorem xe_dictCN {kx vx tg iter : Expr} {ifs : List Expr} {scope : Scope} {di : DI} {t : TG} {g : DG} {dt : DT} {dk dv : DE} (hu : X.A.units + 64 < cLine) (own : List (Str × Nat)) (hc : X.calm = true) (hN : X.N.Nodup) (hi : XI X tg iter di) (ok : BlkOk X.N X.env.scope scope own)
    (hg : ∀ (s : Shared) (H : Hp) (C : Addr) (cl : List (Str × Addr)) (fp : List Addr), XCG (X.blk s H scope (compEnvC scope cl C X.env) fp) (own.map (·.2)) tg t g)
    (ht : ∀ (s : Shared) (H : Hp) (C : Addr) (cl : List (Str × Addr)) (fp : List Addr), XTs (X.blk s H scope (compEnvC scope cl C X.env) fp) ifs dt)
    (hk : ∀ (s : Shared) (H : Hp) (C : Addr) (cl : List (Str × Addr)) (fp : List Addr), XE (X.blk s H scope (compEnvC scope cl C X.env) fp) kx dk)
    (he : ∀ (s : Shared) (H : Hp) (C : Addr) (cl : List (Str × Addr)) (fp : List Addr), XE (X.blk s H scope (compEnvC scope cl C X.env) fp) vx dv)
    (hs : ∀ x, foldedSetIterable iter X.env x = pure x := by intro _; rfl) : XE X (.DictComp kx vx [⟨tg, iter, ifs, 0⟩] scope pos) (dDictCN X.prog X.w di g dt dk dv (own.map (·.2))) := by
  obtain ⟨wi, p, si⟩ := hi.ex
  have g0 := hg {} (fun _ => none) 0 [] []
  exact ⟨_, pe_dcN hu hc hN p ok (fun s H C cl fp => (hg s H C cl fp).pg) (fun s H C cl fp => (ht s H C cl fp).pt) (fun s H C cl fp => (hk s H C cl fp).pe) (fun s H C cl fp => (he s H C cl fp).pe) hs, sim_dictCN si g0.sm g0.ow canT_sim canE_sim canE_sim⟩
end
end DL

/-! DND5: dict displays with keys ints and texts. -/
namespace DL
open PySem PySem.Spec PyProof.Rows L2
def aPairs : List (DE × DE) → Slots → Sto → (List (W × W) → Sto → Prop) → Prop
  | [], _, S, Q => Q [] S
  | (dk, dv) :: r, env, S, Q => dk env S fun x S1 => dv env S1 fun y S2 => aPairs r env S2 fun ps S3 => Q ((x, y) :: ps) S3
def RepP (K : Fg) (r : List Addr) (H : Hp) (ps : List (V × V)) (ws : List (W × W)) : Prop := RepL K r H (ps.map (·.1)) (ws.map (·.1)) ∧ RepL K r H (ps.map (·.2)) (ws.map (·.2))
def SimP (K : Fg) (t : List (TE × TE)) (d : List (DE × DE)) : Prop := ∀ (r : List Addr) (H : Hp) (S : Sto) (s : L2.St) (env : Slots) (Q : List (W × W) → Sto → Prop) (Q0 : List (V × V) → Hp → Prop), RelS K r H S → RepE K r H s env → aPairs d env S Q →
  (∀ r' H' S' ps ws, Ext K r H r' H' → RelS K r' H' S' → RepP K r' H' ps ws → Q ws S' → Q0 ps H') → tPairs t s H Q0
structure XPs (X : Cx) (pos : Pos) (keys : List (Option Expr)) (values : List Expr) (d : List (DE × DE)) : Prop where
  ex : ∃ t, PPs X pos keys values t ∧ SimP X.K t d
section
variable {X : Cx} {pos : Pos}
theorem xps_nil : XPs X pos [] [] [] := ⟨[], pps_nil, fun r H S s env Q Q0 R E d k => k r H S [] [] .refl R ⟨.nil, .nil⟩ d⟩
theorem xps_cons {k v : Expr} {ks : List (Option Expr)} {vs : List Expr} {dk dv : DE} {ds : List (DE × DE)} (hk : XE X k dk) (hv : XE X v dv) (hr : XPs X pos ks vs ds) : XPs X pos (some k :: ks) (v :: vs) ((dk, dv) :: ds) := by
  obtain ⟨tk, pk, sk⟩ := hk.ex
  obtain ⟨tv, pv, sv⟩ := hv.ex
  obtain ⟨tr, pr, sr⟩ := hr.ex
  refine ⟨_, pps_cons pk pv pr, fun r H S s env Q Q0 R E d k => ?_⟩
  refine sk r H S s env _ _ R E d fun r1 H1 S1 x wx e1 R1 q1 d1 => ?_
  refine sv r1 H1 S1 s env _ _ R1 (E.mono e1) d1 fun r2 H2 S2 y wy e2 R2 q2 d2 => ?_
  refine sr r2 H2 S2 s env _ _ R2 (E.mono (e1.trans e2)) d2 fun r3 H3 S3 ps ws e3 R3 q3 d3 => ?_
  exact k r3 H3 S3 _ ((wx, wy) :: ws) ((e1.trans e2).trans e3) R3 ⟨.cons (q1.mono (e2.trans e3)) q3.1, .cons (q2.mono e3) q3.2⟩ d3
def dDisp (ds : List (DE × DE)) : DE := fun env S Q => aPairs ds env S fun ps S1 => ∃ kvs : List (Key × W), ps = kvs.map (fun kv => (wK kv.1, kv.2)) ∧ kvs.length ≤ 15 ∧ Q (.ref S1.length) (S1 ++ [.dk (kvs.foldl (fun acc kv => putW acc kv.1 kv.2) [])])
theorem repP_keys {K : Fg} {r : List Addr} {H : Hp} : ∀ {kvs : List (Key × W)} {ps : List (V × V)}, RepP K r H ps (kvs.map fun kv => (wK kv.1, kv.2)) → ∃ us : List (Key × V), ps = us.map (fun kv => (kV kv.1, kv.2)) ∧ RelKV K r H us kvs
  | [], ps, h => by
    cases ps with
    | nil => exact ⟨[], rfl, kv_nil⟩
    | cons a b =>
      have := h.1
      rw [List.map_cons] at this
      cases this
  | kv :: kvs, ps, h => by
    cases ps with
    | nil =>
      have := h.1
      cases this
    | cons a b =>
      obtain ⟨h1, h2⟩ := h
      rw [List.map_cons, List.map_cons, List.map_cons] at h1 h2
      cases h1 with
      | cons a1 l1 =>
        cases h2 with
        | cons a2 l2 =>
          obtain ⟨us, rfl, q⟩ := repP_keys (kvs := kvs) (ps := b) ⟨l1, l2⟩
          refine ⟨(kv.1, a.2) :: us, ?_, kv_cons a2 q⟩
          rw [List.map_cons]
          obtain ⟨a', a''⟩ := a
          rw [show a' = kV kv.1 from rep_key a1 (keyW_wK kv.1)]
theorem kv_merge {K : Fg} {r : List Addr} {H : Hp} : ∀ {ws : List (Key × W)} {us : List (Key × V)} {accv : List (Key × V)} {acc : List (Key × W)}, RelKV K r H us ws → RelKV K r H accv acc → RelKV K r H (mergeK accv us) (ws.foldl (fun acc kv => putW acc kv.1 kv.2) acc)
  | [], us, accv, acc, h, h0 => by
    cases kv_empty h
    exact h0
  | p :: ws, us, accv, acc, h, h0 => by
    obtain ⟨v, vs', rfl, a, b⟩ := kv_inv h
    exact kv_merge (ws := ws) (us := vs') (accv := putK accv p.1 v) b (kv_put a h0)
theorem xe_disp {keys : List (Option Expr)} {values : List Expr} {ds : List (DE × DE)} (h : XPs X pos keys values ds) (hall : keys.all (·.isSome) = true := by rfl) (hl : keys.length = values.length := by rfl) (h0 : keys ≠ [] := by exact List.cons_ne_nil _ _) (h15 : keys.length ≤ 15 := by decide) : XE X (.Dict keys values pos) (dDisp ds) := by
  obtain ⟨t, p, s⟩ := h.ex
  refine ⟨_, pe_disp p hall hl h0 h15, fun r H S st env Q Q0 R E d k => fun a ha => ?_⟩
  have nD := R.notin ha
  refine s r (upd H a (.dK [])) S st env _ _ (rel_new R ha) (E.mono (ext_new ha)) d fun r1 H1 S1 ps ws e1 R1 q1 d1 => ?_
  obtain ⟨n1, hl1⟩ := e1.apart nD upd_same
  obtain ⟨kvs, rfl, few, d2⟩ := d1
  obtain ⟨us, rfl, q⟩ := repP_keys q1
  refine ⟨hl1, us, rfl, by rw [kv_len q]; exact few, ?_⟩
  have m := kv_mono' (Kp.hid (o := .dK (mergeK [] us)) hl1 trivial) (kv_merge q kv_nil)
  have e3 := ((ext_new (K := X.K) (r := r) (o := .dK []) ha).trans e1).hid ha (o := .dK (mergeK [] us)) hl1 trivial
  exact k _ _ _ _ _ (e3.join ha) (join_dct (R1.hid n1 hl1 trivial) n1 upd_same m) (rep_mem R1) d2
end
end DL

/-! DND6: comprehensions with a tuple for a target, into dicts of tuple keys. -/
namespace DL
open PySem PySem.Spec PyProof.Rows L2
/-- a pair of .items() -/
def pairN (kv : W × W) : W := .tup [kv.1, kv.2]
section
variable {X : Cx} {pos : Pos}
theorem xe_dictCNT {kx vx iter : Expr} {es : List Expr} {kt n : Nat} {tpos : Pos} {ifs : List Expr} {scope : Scope} {di : DI} {ts : TGs} {gs : DGs} {dt : DT} {dk dv : DE} (hu : X.A.units + 64 < cLine) (own : List (Str × Nat)) (hc : X.calm = true) (hN : X.N.Nodup) (hi : XI X (.Tuple es kt tpos) iter di) (ok : BlkOk X.N X.env.scope scope own)
    (hg : ∀ (s : Shared) (H : Hp) (C : Addr) (cl : List (Str × Addr)) (fp : List Addr), XCGs (X.blk s H scope (compEnvC scope cl C X.env) fp) (own.map (·.2)) es ts gs)
    (ht : ∀ (s : Shared) (H : Hp) (C : Addr) (cl : List (Str × Addr)) (fp : List Addr), XTs (X.blk s H scope (compEnvC scope cl C X.env) fp) ifs dt)
    (hk : ∀ (s : Shared) (H : Hp) (C : Addr) (cl : List (Str × Addr)) (fp : List Addr), XE (X.blk s H scope (compEnvC scope cl C X.env) fp) kx dk)
    (he : ∀ (s : Shared) (H : Hp) (C : Addr) (cl : List (Str × Addr)) (fp : List Addr), XE (X.blk s H scope (compEnvC scope cl C X.env) fp) vx dv)
    (hn : ∀ env, (assignEach es env).length = n := by intro _; rfl) (hst : ∀ env, (assignEach es env).findIdx? (·.1) = none := by intro _; rfl)
    (hs : ∀ x, foldedSetIterable iter X.env x = pure x := by intro _; rfl) : XE X (.DictComp kx vx [⟨.Tuple es kt tpos, iter, ifs, 0⟩] scope pos) (dDictCN X.prog X.w di (gTp n gs) dt dk dv (own.map (·.2))) :=
  xe_dictCN (t := gTup X.K n ts) hu own hc hN hi ok (fun s H C cl fp => xcg_tup (X := X.blk s H scope (compEnvC scope cl C X.env) fp) hc (hg s H C cl fp) (hn _) (hst _)) ht hk he hs
end
end DL

/-! DSD: data of whole numbers, texts and tuples: ==, in, sorted. -/
namespace DL
open PySem PySem.Spec PyProof.Rows L2
/-! ### standard data -/
mutual
def W.std : W → Bool
  | .int _ => true
  | .str x => PyData.strOk x
  | .tup ws => W.stdL ws
  | _ => false
def W.stdL : List W → Bool
  | [] => true
  | w :: ws => w.std && W.stdL ws
end
theorem stdL_iff : ∀ ws : List W, W.stdL ws = true ↔ ∀ w ∈ ws, w.std = true
  | [] => by simp [W.stdL]
  | w :: ws => by
    show (w.std && W.stdL ws) = true ↔ _
    rw [Bool.and_eq_true, stdL_iff ws, List.forall_mem_cons]
mutual
theorem std_pure : ∀ w : W, w.std = true → w.pure = true
  | .int _, _ => rfl
  | .str _, _ => rfl
  | .tup ws, h => stdL_pure ws h
  | .non, h => by cases h
  | .bl _, h => by cases h
  | .lit _, h => by cases h
  | .ref _, h => by cases h
  | .raw _, h => by cases h
theorem stdL_pure : ∀ ws : List W, W.stdL ws = true → W.pureL ws = true
  | [], _ => rfl
  | w :: ws, h => by
    have b : (w.std && W.stdL ws) = true := h
    rw [Bool.and_eq_true] at b
    show (w.pure && W.pureL ws) = true
    rw [std_pure w b.1, stdL_pure ws b.2]
    rfl
end
mutual
theorem std_lay : ∀ w : W, w.std = true → PyData.canLay0 (datW w) = true
  | .int _, _ => by simp [datW, PyData.canLay0]
  | .str x, h => by
    show PyData.canLay0 (.str x) = true
    rw [PyData.canLay0]
    exact h
  | .tup ws, h => by
    show PyData.canLay0 (.tuple (datWs ws)) = true
    rw [PyData.canLay0]
    exact stdL_lay ws h
  | .non, h => by cases h
  | .bl _, h => by cases h
  | .lit _, h => by cases h
  | .ref _, h => by cases h
  | .raw _, h => by cases h
theorem stdL_lay : ∀ ws : List W, W.stdL ws = true → PyData.canLayAll0 (datWs ws) = true
  | [], _ => by simp [datWs, PyData.canLayAll0]
  | w :: ws, h => by
    have b : (w.std && W.stdL ws) = true := h
    rw [Bool.and_eq_true] at b
    show PyData.canLayAll0 (datW w :: datWs ws) = true
    rw [PyData.canLayAll0, std_lay w b.1, stdL_lay ws b.2]
    rfl
end
mutual
theorem std_eqv : ∀ x y : W, x.std = true → y.std = true → (PyData.eqv (datW x) (datW y) = true ↔ x = y)
  | .int i, y, _, h => by
    cases y <;> first | (cases h; done) | (simp [datW, PyData.eqv])
  | .str i, y, _, h => by
    cases y <;> first | (cases h; done) | (simp [datW, PyData.eqv])
  | .tup xs, y, g, h => by
    cases y with
    | tup ys =>
      show PyData.eqv (.tuple (datWs xs)) (.tuple (datWs ys)) = true ↔ _
      rw [PyData.eqv, stdL_eqv xs ys g h]
      simp
    | int i => simp [datW, PyData.eqv]
    | str i => simp [datW, PyData.eqv]
    | _ => cases h
  | .non, _, h, _ => by cases h
  | .bl _, _, h, _ => by cases h
  | .lit _, _, h, _ => by cases h
  | .ref _, _, h, _ => by cases h
  | .raw _, _, h, _ => by cases h
theorem stdL_eqv : ∀ xs ys : List W, W.stdL xs = true → W.stdL ys = true → (PyData.eqvAll (datWs xs) (datWs ys) = true ↔ xs = ys)
  | [], [], _, _ => by simp [datWs, PyData.eqvAll]
  | [], y :: ys, _, _ => by simp [datWs, PyData.eqvAll]
  | x :: xs, [], _, _ => by simp [datWs, PyData.eqvAll]
  | x :: xs, y :: ys, g, h => by
    have g' : (x.std && W.stdL xs) = true := g
    have h' : (y.std && W.stdL ys) = true := h
    rw [Bool.and_eq_true] at g' h'
    show PyData.eqvAll (datW x :: datWs xs) (datW y :: datWs ys) = true ↔ _
    rw [PyData.eqvAll, Bool.and_eq_true, std_eqv x y g'.1 h'.1, stdL_eqv xs ys g'.2 h'.2]
    simp
end
theorem std_eqvB {x y : W} (g : x.std = true) (h : y.std = true) (p : Prop) [Decidable p] (e : x = y ↔ p) : PyData.eqv (datW x) (datW y) = decide p := by
  rw [Bool.eq_iff_iff, decide_eq_true_eq, std_eqv x y g h, e]
/-! ### kinds -/
inductive Kd where
  | i | s | seq (k : Kd) | nil | cons (h t : Kd)
def IsK : Kd → W → Prop
  | .i, w => ∃ n, w = .int n
  | .s, w => ∃ x, w = .str x
  | .seq k, w => ∃ ws, w = .tup ws ∧ ∀ u ∈ ws, IsK k u
  | .nil, w => w = .tup []
  | .cons h t, w => ∃ u r, w = .tup (u :: r) ∧ IsK h u ∧ IsK t (.tup r)
def Kd.dp : Kd → Nat
  | .i => 0
  | .s => 0
  | .seq k => k.dp + 1
  | .nil => 1
  | .cons h t => max (h.dp + 1) t.dp
theorem isK_alike : ∀ (k : Kd) (x y : W), IsK k x → IsK k y → PySem.W.alike (datW x) (datW y) = true
  | .i, x, y, ⟨n, e⟩, ⟨m, e'⟩ => by subst e e'; simp [datW, PySem.W.alike]
  | .s, x, y, ⟨n, e⟩, ⟨m, e'⟩ => by subst e e'; simp [datW, PySem.W.alike]
  | .seq k, x, y, ⟨ws, e, h⟩, ⟨us, e', h'⟩ => by
    subst e e'
    show PySem.W.alike (.tuple (datWs ws)) (.tuple (datWs us)) = true
    rw [PySem.W.alike]
    have go : ∀ ws us : List W, (∀ u ∈ ws, IsK k u) → (∀ u ∈ us, IsK k u) → PySem.W.alikeAll (datWs ws) (datWs us) = true := by
      intro ws
      induction ws with
      | nil => intro us _ _; cases us <;> simp [datWs, PySem.W.alikeAll]
      | cons w ws ih =>
        intro us h h'
        cases us with
        | nil => simp [datWs, PySem.W.alikeAll]
        | cons u us =>
          show PySem.W.alikeAll (datW w :: datWs ws) (datW u :: datWs us) = true
          rw [PySem.W.alikeAll, isK_alike k w u (h w (List.mem_cons_self ..)) (h' u (List.mem_cons_self ..)), ih us (fun v hv => h v (List.mem_cons_of_mem _ hv)) fun v hv => h' v (List.mem_cons_of_mem _ hv)]
          rfl
    exact go ws us h h'
  | .nil, x, y, e, e' => by
    have e : x = .tup [] := e
    have e' : y = .tup [] := e'
    subst e e'
    simp [datW, datWs, PySem.W.alike, PySem.W.alikeAll]
  | .cons h t, x, y, ⟨u, r, e, a, b⟩, ⟨u', r', e', a', b'⟩ => by
    subst e e'
    have z := isK_alike t _ _ b b'
    have z : PySem.W.alike (.tuple (datWs r)) (.tuple (datWs r')) = true := z
    rw [PySem.W.alike] at z
    show PySem.W.alike (.tuple (datW u :: datWs r)) (.tuple (datW u' :: datWs r')) = true
    rw [PySem.W.alike, PySem.W.alikeAll, isK_alike h u u' a a', z]
    rfl
theorem isK_dp : ∀ (k : Kd) (x : W), IsK k x → (datW x).depth ≤ k.dp
  | .i, x, ⟨n, e⟩ => by subst e; simp [datW, PyData.depth]
  | .s, x, ⟨n, e⟩ => by subst e; simp [datW, PyData.depth]
  | .seq k, x, ⟨ws, e, h⟩ => by
    subst e
    show (PyData.tuple (datWs ws)).depth ≤ k.dp + 1
    have go : ∀ ws : List W, (∀ u ∈ ws, IsK k u) → PyData.depthAll (datWs ws) ≤ k.dp := by
      intro ws
      induction ws with
      | nil => intro _; simp [datWs, PyData.depthAll]
      | cons w ws ih =>
        intro h
        have h1 := isK_dp k w (h w (List.mem_cons_self ..))
        have h2 := ih fun v hv => h v (List.mem_cons_of_mem _ hv)
        show PyData.depthAll (datW w :: datWs ws) ≤ _
        rw [PyData.depthAll]
        omega
    have z := go ws h
    rw [PyData.depth]
    omega
  | .nil, x, e => by
    have e : x = .tup [] := e
    subst e
    show (PyData.tuple []).depth ≤ 1
    rw [PyData.depth, PyData.depthAll]
    omega
  | .cons h t, x, ⟨u, r, e, a, b⟩ => by
    subst e
    have h1 := isK_dp h u a
    have h2 : (PyData.tuple (datWs r)).depth ≤ t.dp := isK_dp t _ b
    show (PyData.tuple (datW u :: datWs r)).depth ≤ max (h.dp + 1) t.dp
    rw [PyData.depth] at h2 ⊢
    rw [PyData.depthAll]
    omega
theorem std_shaped {k : Kd} {w : W} (h : w.std = true) (hk : IsK k w) (hd : k.dp ≤ 64 := by decide) : SeqAt.shaped (datW w) = true := by
  unfold SeqAt.shaped
  rw [Bool.and_eq_true, decide_eq_true_eq]
  exact ⟨std_lay w h, Nat.le_trans (isK_dp k w hk) hd⟩
theorem std_shapedL {k : Kd} {ws : List W} (h : ∀ w ∈ ws, w.std = true) (hk : ∀ w ∈ ws, IsK k w) (hd : k.dp ≤ 63 := by decide) : SeqAt.shaped (.list (datWs ws)) = true := by
  unfold SeqAt.shaped
  rw [Bool.and_eq_true, decide_eq_true_eq]
  have z : (PyData.tuple (datWs ws)).depth ≤ k.dp + 1 := isK_dp (.seq k) (.tup ws) ⟨ws, rfl, hk⟩
  rw [PyData.depth] at z
  refine ⟨?_, ?_⟩
  · rw [PyData.canLay0]
    exact stdL_lay ws ((stdL_iff ws).mpr h)
  · rw [PyData.depth]
    omega
/-! ### ==, in -/
theorem eq_std {n : Bool} {x y : W} {S : Sto} {Q : WK} {k : Kd} (g : x.std = true) (h : y.std = true) (kx : IsK k x) (ky : IsK k y) (p : Prop) [Decidable p] (e : x = y ↔ p) (hd : k.dp ≤ 64 := by decide) (q : Q (.bl (n ^^ decide p)) S) (ht : ∃ us, x = .tup us) : vEqG n x y S Q := by
  obtain ⟨us, rfl⟩ := ht
  have sc : scW (.tup us) y = none := by cases y <;> rfl
  have dW : ∀ v : W, v.std = true → dataS S v = some (datW v) := fun v hv => by
    have hp := std_pure v hv
    cases v with
    | int i => rfl
    | str x => rfl
    | tup us =>
      show (if W.pureL us = true then _ else _) = _
      rw [if_pos (show W.pureL us = true from hp)]
    | _ => cases hv
  have dy := dW y h
  have dx := dW _ g
  unfold vEqG
  rw [sc]
  refine ⟨_, _, dx, dy, std_shaped g kx hd, std_shaped h ky hd, ?_⟩
  rw [std_eqvB g h p e]
  exact q
theorem any_std {x : W} (g : x.std = true) : ∀ ws : List W, (∀ w ∈ ws, w.std = true) → (((datWs ws).any fun z => PyData.eqv z (datW x)) = true ↔ x ∈ ws)
  | [], _ => by simp [datWs]
  | w :: ws, h => by
    show (PyData.eqv (datW w) (datW x) || _) = true ↔ _
    rw [Bool.or_eq_true, std_eqv w x (h w (List.mem_cons_self ..)) g, any_std g ws fun v hv => h v (List.mem_cons_of_mem _ hv), List.mem_cons]
    exact ⟨fun q => q.imp Eq.symm id, fun q => q.imp Eq.symm id⟩
theorem inP_std {n : Bool} {x : W} {ws : List W} {i : Nat} {S : Sto} {Q : WK} {k k' : Kd} (hS : S[i]? = some (.lst ws)) (g : x.std = true) (kx : IsK k' x) (h : ∀ w ∈ ws, w.std = true) (hk : ∀ w ∈ ws, IsK k w) (p : Prop) [Decidable p] (e : x ∈ ws ↔ p) (q : Q (.bl (n ^^ decide p)) S) (hd : k.dp ≤ 63 := by decide) (hd' : k'.dp ≤ 64 := by decide) : vInP n x (.ref i) S Q := by
  refine ⟨ws, hS, std_pure x g, stdL_pure ws ((stdL_iff ws).mpr h), std_shaped g kx hd', std_shapedL h hk hd, ?_⟩
  have z : ((datWs ws).any fun z => PyData.eqv z (datW x)) = decide p := by
    rw [Bool.eq_iff_iff, decide_eq_true_eq, any_std g ws h, e]
  rw [z]
  exact q
/-! ### the order -/
theorem leW_trans {a b c : W} (h1 : leW a b = true) (h2 : leW b c = true) : leW a c = true := by
  rw [leW_kle] at *
  exact KeyOrd.kle_trans h1 h2
theorem leW_total (a b : W) : (leW a b || leW b a) = true := by
  rw [Bool.or_eq_true, leW_kle, leW_kle]
  unfold KeyOrd.kle
  cases e : (listOrd itemOrd).blt (tk b) (tk a) with
  | false => exact .inl rfl
  | true => exact .inr (KeyOrd.klt_asymm e)
theorem toks_diff {x y : PyData} (h : PySem.W.alike x y = true) (e : PyData.eqv x y = false) : PySem.W.keyToks x ≠ PySem.W.keyToks y := fun he => by
  have z := (PySem.W.toks_eqv x y h).2 e
  have z1 := z [] [.inl 0]
  rw [he, List.append_nil] at z1
  have z2 := z [.inl 0] [.inl 0]
  rw [he] at z2
  rw [lex_irrefl] at z1
  have z3 := PySem.W.lex_pre (PySem.W.keyToks y) [] [.inl 0]
  rw [List.append_nil] at z3
  rw [z3] at z1
  exact absurd z1 (by decide)
theorem leW_antisymm {k : Kd} {a b : W} (g : a.std = true) (h : b.std = true) (ka : IsK k a) (kb : IsK k b) (h1 : leW a b = true) (h2 : leW b a = true) : a = b := by
  rw [leW_kle] at h1 h2
  have e := KeyOrd.kle_antisymm h1 h2
  cases c : PyData.eqv (datW a) (datW b) with
  | true => exact (std_eqv a b g h).mp c
  | false => exact absurd e (toks_diff (isK_alike k a b ka kb) c)
theorem leW_head {k : Kd} {x y : W} {xs ys : List W} (gx : x.std = true) (gy : y.std = true) (kx : IsK k x) (ky : IsK k y) (hne : x ≠ y) : leW (.tup (x :: xs)) (.tup (y :: ys)) = leW x y := by
  show (!lexLt itemOrd (PySem.W.keyToksAll (datW y :: datWs ys)) (PySem.W.keyToksAll (datW x :: datWs xs))) = _
  have e : PyData.eqv (datW y) (datW x) ≠ true := fun q => hne ((std_eqv y x gy gx).mp q).symm
  rw [PySem.W.dataLt_cons (isK_alike k y x ky kx), if_neg e]
  rfl
theorem leW_tail {k : Kd} {x : W} {xs ys : List W} (gx : x.std = true) (kx : IsK k x) : leW (.tup (x :: xs)) (.tup (x :: ys)) = leW (.tup xs) (.tup ys) := by
  show (!lexLt itemOrd (PySem.W.keyToksAll (datW x :: datWs ys)) (PySem.W.keyToksAll (datW x :: datWs xs))) = _
  rw [PySem.W.dataLt_cons (isK_alike k x x kx kx), if_pos ((std_eqv x x gx gx).mpr rfl)]
  rfl
/-- the head of a tuple that is not above another -/
theorem leW_fst {k : Kd} {x y : W} {xs ys : List W} (gx : x.std = true) (gy : y.std = true) (kx : IsK k x) (ky : IsK k y) (h : leW (.tup (x :: xs)) (.tup (y :: ys)) = true) : leW x y = true := by
  rcases Classical.em (x = y) with e | e
  · subst e
    have := leW_total x x
    simpa using this
  · rwa [leW_head gx gy kx ky e] at h
/-! ### sorted -/
theorem sorted_std {S : Sto} {Q : WK} {i : Nat} {ws : List W} {k : Kd} (hS : S[i]? = some (.lst ws)) (h : ∀ w ∈ ws, w.std = true) (hk : ∀ w ∈ ws, IsK k w) (hs : (∀ w ∈ ws, ∃ x r, w = .tup (x :: r)) ∨ ∀ w ∈ ws, ∀ us, w ≠ .tup us) (q : Q (.ref S.length) (S ++ [.lst (ws.mergeSort leW)])) (hd : k.dp ≤ 60 := by decide) : vSorted [.ref i] S Q := by
  refine ⟨ws, hS, stdL_pure ws ((stdL_iff ws).mpr h), fun x hx y hy => ?_, ?_, fun w hw => Nat.le_trans (isK_dp k w (hk w hw)) hd, q⟩
  · obtain ⟨a, ha, rfl⟩ := List.mem_map.mp hx
    obtain ⟨b, hb, rfl⟩ := List.mem_map.mp hy
    exact isK_alike k a b (hk a ha) (hk b hb)
  · refine hs.imp (fun g x hx => ?_) fun g x hx => ?_
    · obtain ⟨a, ha, rfl⟩ := List.mem_map.mp hx
      obtain ⟨y, r, rfl⟩ := g a ha
      exact ⟨_, _, rfl⟩
    · obtain ⟨a, ha, rfl⟩ := List.mem_map.mp hx
      have sa := h a ha
      have na := g a ha
      cases a with
      | int i => exact ⟨by simp [datW], by simp [datW]⟩
      | str i => exact ⟨by simp [datW], by simp [datW]⟩
      | tup us => exact absurd rfl (na us)
      | _ => cases sa
theorem sort_asc (ws : List W) : (ws.mergeSort leW).Pairwise fun a b => leW a b = true := List.pairwise_mergeSort (le := leW) (fun _ _ _ => leW_trans) leW_total ws
theorem asc_uniq {k : Kd} {us vs : List W} (h : ∀ w ∈ us, w.std = true) (hk : ∀ w ∈ us, IsK k w) (p : us.Perm vs) (a1 : us.Pairwise fun a b => leW a b = true) (a2 : vs.Pairwise fun a b => leW a b = true) : us = vs :=
  List.Perm.eq_of_pairwise (le := fun a b => leW a b = true) (fun a b ha hb h1 h2 => leW_antisymm (k := k) (h a ha) (h b (p.mem_iff.mpr hb)) (hk a ha) (hk b (p.mem_iff.mpr hb)) h1 h2) a1 a2 p
end DL

/-! DCM: comprehensions and loops over encoded lists; dicts of tuple keys, said short. -/
namespace DL
open PySem PySem.Spec PyProof.Rows L2 KS
theorem get_old {S G : Sto} {j : Nat} {o : O} (h : S[j]? = some o) : (S ++ G)[j]? = some o := by
  rw [List.getElem?_append_left (List.getElem?_eq_some_iff.mp h).1]
  exact h
theorem take_snoc {α : Type} {xs : List α} {i : Nat} {a : α} (h : xs[i]? = some a) : xs.take (i + 1) = xs.take i ++ [a] := by
  rw [List.take_add_one, h]
  rfl
theorem end_drop {S G : Sto} {Q : WK} {w : W} (cl : Closed S) (hp : w.pure = true) (q : Q w S) : Ends0 S.length Q w (S ++ G) := Ends0.drop G (Nat.le_refl _) cl (pure_bnd _ _ hp) q
theorem log_small {j : Int} (h : 0 < j ∧ j < 18446744073709551616) : j.natAbs.log2 < 9000 := by
  have h1 : j.natAbs < 2 ^ 64 := by
    have : (2 : Nat) ^ 64 = 18446744073709551616 := by decide
    omega
  have h2 := Nat.log2_lt (n := j.natAbs) (k := 64) (by omega)
  have := h2.mpr h1
  omega
theorem perm_map_inv {α β : Type} {f : α → β} {vs ws : List β} (h : vs.Perm ws) : ∀ us : List α, ws = us.map f → ∃ zs : List α, vs = zs.map f ∧ zs.Perm us := by
  induction h with
  | nil =>
    intro us e
    have : us = [] := by
      cases us with
      | nil => rfl
      | cons a us => cases e
    subst this
    exact ⟨[], rfl, .nil⟩
  | cons x _ ih =>
    intro us e
    cases us with
    | nil => cases e
    | cons a us =>
      obtain ⟨e1, e2⟩ := List.cons.inj e
      obtain ⟨zs, rfl, hp⟩ := ih us e2
      exact ⟨a :: zs, by rw [e1]; rfl, hp.cons a⟩
  | swap x y l =>
    intro us e
    cases us with
    | nil => cases e
    | cons a us =>
      cases us with
      | nil => cases (List.cons.inj e).2
      | cons b us =>
        obtain ⟨e1, e2⟩ := List.cons.inj e
        obtain ⟨e3, e4⟩ := List.cons.inj e2
        exact ⟨b :: a :: us, by rw [e1, e3, e4]; rfl, List.Perm.swap a b us⟩
  | trans _ _ ih1 ih2 =>
    intro us e
    obtain ⟨zs, rfl, hp⟩ := ih2 us e
    obtain ⟨xs, rfl, hq⟩ := ih1 zs rfl
    exact ⟨xs, rfl, hq.trans hp⟩
/-- a statement, then what holds behind it -/
theorem seqI {t u : DS} {D : DEnds} {env : Slots} {S : Sto} (I : Slots → Sto → Prop) (h1 : ∀ N : Slots → Sto → Prop, (∀ e s, I e s → N e s) → t { D with nx := N } env S) (h2 : ∀ e s, I e s → u D e s) : dSeq t u D env S := h1 (u D) h2
section
variable {α : Type} {f h : α → W} {p : α → Bool} {xs : List α} {g : DG} {tt : DT} {te : DE} {vs : List Nat} {still : Sto → Prop} {env : Slots} {Q : WK} {S : Sto}
/-- a comprehension over encoded things; what its parts leave behind is garbage -/
theorem compX (st : ∀ G, still (S ++ G)) (hl : xs.length ≤ 99998)
    (he : ∀ a ∈ xs, ∀ (G : Sto) (N : Bool → W → Sto → Prop), (∀ G', (p a = true → N true (h a) (S ++ G')) ∧ (p a = false → ∀ w, N false w (S ++ G'))) → g (f a) (wipeW env vs) (S ++ G) fun e2 S2 => tt e2 S2 fun b S3 => if b = true then te e2 S3 fun y S4 => N true y S4 else N false .non S3)
    (q : ∀ G, Q (.ref (S ++ G).length) (S ++ G ++ [.lst ((xs.filter p).map h)])) : compW g tt te vs still env Q (xs.map f) [] S := by
  refine compW_inv (fun k acc S' => (∃ G, S' = S ++ G) ∧ acc = ((xs.take k).filter p).map h) ⟨⟨[], by simp⟩, by simp⟩ ?_ ?_
  · rintro k x acc S' hx ⟨⟨G, rfl⟩, rfl⟩ N hN
    obtain ⟨a, ha, rfl, hm, hk⟩ := map_get hx
    refine ⟨st G, ?_⟩
    have hlen : (((xs.take k).filter p).map h).length < sizeLine := by
      refine lt_sz ?_
      rw [List.length_map]
      have := List.length_filter_le p (xs.take k)
      rw [List.length_take] at this
      omega
    have z := he a hm G (fun b y S4 => if b = true then (((xs.take k).filter p).map h).length < sizeLine ∧ N ((((xs.take k).filter p).map h) ++ [y]) S4 else N (((xs.take k).filter p).map h) S4) fun G' => ⟨fun hp => ?_, fun hp w => ?_⟩
    · simpa only [if_true, Bool.false_eq_true, if_false] using z
    · rw [if_pos rfl]
      refine ⟨hlen, hN _ _ ⟨⟨G', rfl⟩, ?_⟩⟩
      rw [take_snoc ha, List.filter_append, List.map_append, List.filter_cons_of_pos hp]
      rfl
    · rw [if_neg Bool.false_ne_true]
      refine hN _ _ ⟨⟨G', rfl⟩, ?_⟩
      rw [take_snoc ha, List.filter_append, List.map_append, List.filter_cons_of_neg (by rw [hp]; exact Bool.false_ne_true)]
      simp
  · rintro acc S' ⟨⟨G, rfl⟩, rfl⟩
    rw [List.length_map, List.take_length]
    exact ⟨st G, q G⟩
/-- the same without garbage -/
theorem compP (st : still S) (hl : xs.length ≤ 99998)
    (he : ∀ a ∈ xs, ∀ N : Bool → W → Prop, (p a = true → N true (h a)) → (p a = false → ∀ w, N false w) → g (f a) (wipeW env vs) S fun e2 S2 => tt e2 S2 fun b S3 => if b = true then te e2 S3 fun y S4 => S4 = S ∧ N true y else S3 = S ∧ N false .non)
    (q : Q (.ref S.length) (S ++ [.lst ((xs.filter p).map h)])) (mono : ∀ a ∈ xs, ∀ N N' : Bool → W → Sto → Prop, (∀ b w s, N b w s → N' b w s) → (g (f a) (wipeW env vs) S fun e2 S2 => tt e2 S2 fun b S3 => if b = true then te e2 S3 fun y S4 => N true y S4 else N false .non S3) → g (f a) (wipeW env vs) S fun e2 S2 => tt e2 S2 fun b S3 => if b = true then te e2 S3 fun y S4 => N' true y S4 else N' false .non S3) : compW g tt te vs still env Q (xs.map f) [] S := by
  refine compW_inv (fun k acc S' => S' = S ∧ acc = ((xs.take k).filter p).map h) ⟨rfl, by simp⟩ ?_ ?_
  · rintro k x acc S' hx ⟨rfl, rfl⟩ N hN
    obtain ⟨a, ha, rfl, hm, hk⟩ := map_get hx
    refine ⟨st, ?_⟩
    have hlen : (((xs.take k).filter p).map h).length < sizeLine := by
      refine lt_sz ?_
      rw [List.length_map]
      have := List.length_filter_le p (xs.take k)
      rw [List.length_take] at this
      omega
    have z := he a hm (fun b y => if b = true then (((xs.take k).filter p).map h).length < sizeLine ∧ N ((((xs.take k).filter p).map h) ++ [y]) S' else N (((xs.take k).filter p).map h) S') (fun hp => ?_) (fun hp w => ?_)
    · refine mono a hm (fun b y s => s = S' ∧ if b = true then (((xs.take k).filter p).map h).length < sizeLine ∧ N ((((xs.take k).filter p).map h) ++ [y]) S' else N (((xs.take k).filter p).map h) S') (fun b y s => if b = true then (((xs.take k).filter p).map h).length < sizeLine ∧ N ((((xs.take k).filter p).map h) ++ [y]) s else N (((xs.take k).filter p).map h) s) ?_ z
      rintro b y s ⟨rfl, q⟩
      exact q
    · rw [if_pos rfl]
      refine ⟨hlen, hN _ _ ⟨rfl, ?_⟩⟩
      rw [take_snoc ha, List.filter_append, List.map_append, List.filter_cons_of_pos hp]
      rfl
    · rw [if_neg Bool.false_ne_true]
      refine hN _ _ ⟨rfl, ?_⟩
      rw [take_snoc ha, List.filter_append, List.map_append, List.filter_cons_of_neg (by rw [hp]; exact Bool.false_ne_true)]
      simp
  · rintro acc S' ⟨rfl, rfl⟩
    rw [List.length_map, List.take_length]
    exact ⟨st, q⟩
end
section
variable {α : Type} {f h : α → W} {p : α → Bool} {xs : List α} {i : Nat} {tt : DT} {te : DE} {vs : List Nat} {still : Sto → Prop} {env : Slots} {Q : WK} {S : Sto}
theorem compN (st : still S) (hl : xs.length ≤ 99998) (ht : ∀ a ∈ xs, ∀ QT : Bool → Sto → Prop, QT (p a) S → tt ((wipeW env vs).set i (some (f a))) S QT)
    (he : ∀ a ∈ xs, p a = true → ∀ K : W → Sto → Prop, K (h a) S → te ((wipeW env vs).set i (some (f a))) S K) (q : Q (.ref S.length) (S ++ [.lst ((xs.filter p).map h)])) : compW (gNm i) tt te vs still env Q (xs.map f) [] S := by
  refine compW_inv (fun k acc S' => S' = S ∧ acc = ((xs.take k).filter p).map h) ⟨rfl, by simp⟩ ?_ ?_
  · rintro k x acc S' hx ⟨rfl, rfl⟩ N hN
    obtain ⟨a, ha, rfl, hm, hk⟩ := map_get hx
    refine ⟨st, ?_⟩
    show tt _ _ _
    refine ht a hm _ ?_
    cases hp : p a with
    | true =>
      rw [if_pos rfl]
      refine he a hm hp _ ⟨?_, hN _ _ ⟨rfl, ?_⟩⟩
      · refine lt_sz ?_
        rw [List.length_map]
        have := List.length_filter_le p (xs.take k)
        rw [List.length_take] at this
        omega
      · rw [take_snoc ha, List.filter_append, List.map_append, List.filter_cons_of_pos hp]
        rfl
    | false =>
      rw [if_neg Bool.false_ne_true]
      refine hN _ _ ⟨rfl, ?_⟩
      rw [take_snoc ha, List.filter_append, List.map_append, List.filter_cons_of_neg (by rw [hp]; exact Bool.false_ne_true)]
      simp
  · rintro acc S' ⟨rfl, rfl⟩
    rw [List.length_map, List.take_length]
    exact ⟨st, q⟩
theorem compM (st : still S) (hl : xs.length ≤ 99998) (he : ∀ a ∈ xs, ∀ K : W → Sto → Prop, K (h a) S → te ((wipeW env vs).set i (some (f a))) S K) (q : Q (.ref S.length) (S ++ [.lst (xs.map h)])) : compW (gNm i) dYes te vs still env Q (xs.map f) [] S := by
  refine compN (p := fun _ => true) (h := h) st hl (fun a _ QT k => k) (fun a ha _ => he a ha) ?_
  rw [List.filter_eq_self.mpr fun _ _ => rfl]
  exact q
theorem compNG (st : ∀ G, still (S ++ G)) (hl : xs.length ≤ 99998) (ht : ∀ a ∈ xs, ∀ (G : Sto) (QT : Bool → Sto → Prop), (∀ G', QT (p a) (S ++ G')) → tt ((wipeW env vs).set i (some (f a))) (S ++ G) QT)
    (he : ∀ a ∈ xs, p a = true → ∀ (G : Sto) (K : W → Sto → Prop), (∀ G', K (h a) (S ++ G')) → te ((wipeW env vs).set i (some (f a))) (S ++ G) K) (q : ∀ G, Q (.ref (S ++ G).length) (S ++ G ++ [.lst ((xs.filter p).map h)])) : compW (gNm i) tt te vs still env Q (xs.map f) [] S := by
  refine compW_inv (fun k acc S' => (∃ G, S' = S ++ G) ∧ acc = ((xs.take k).filter p).map h) ⟨⟨[], by simp⟩, by simp⟩ ?_ ?_
  · rintro k x acc S' hx ⟨⟨G, rfl⟩, rfl⟩ N hN
    obtain ⟨a, ha, rfl, hm, hk⟩ := map_get hx
    refine ⟨st G, ?_⟩
    show tt _ _ _
    refine ht a hm G _ fun G' => ?_
    cases hp : p a with
    | true =>
      rw [if_pos rfl]
      refine he a hm hp G' _ fun G2 => ⟨?_, hN _ _ ⟨⟨G2, rfl⟩, ?_⟩⟩
      · refine lt_sz ?_
        rw [List.length_map]
        have := List.length_filter_le p (xs.take k)
        rw [List.length_take] at this
        omega
      · rw [take_snoc ha, List.filter_append, List.map_append, List.filter_cons_of_pos hp]
        rfl
    | false =>
      rw [if_neg Bool.false_ne_true]
      refine hN _ _ ⟨⟨G', rfl⟩, ?_⟩
      rw [take_snoc ha, List.filter_append, List.map_append, List.filter_cons_of_neg (by rw [hp]; exact Bool.false_ne_true)]
      simp
  · rintro acc S' ⟨⟨G, rfl⟩, rfl⟩
    rw [List.length_map, List.take_length]
    exact ⟨st G, q G⟩
end
theorem any_ok {S : Sto} {Q : WK} {i : Nat} {g : List Bool → Bool} {α : Type} {xs : List α} {b : α → Bool} (h : S[i]? = some (.lst (xs.map fun a => W.bl (b a)))) (q : Q (.bl (g (xs.map b))) S) : vAny g [.ref i] S Q :=
  ⟨xs.map b, by rw [h, List.map_map]; rfl, q⟩
/-- a loop whose invariant speaks of the things seen -/
theorem forM {α : Type} {f : α → W} {xs : List α} {g : DG} {b : DS} {still : Sto → Prop} {D : DEnds} {env : Slots} {S : Sto} (I : List α → Slots → Sto → Prop) (h0 : I [] env S)
    (hs : ∀ (pre : List α) (a : α) (post : List α) (env : Slots) (S : Sto), xs = pre ++ a :: post → I pre env S → ∀ N : Slots → Sto → Prop, (∀ e s, I (pre ++ [a]) e s → N e s) → still S ∧ g (f a) env S fun e2 S2 => b { D with nx := N, bk := D.nx, ct := N } e2 S2)
    (he : ∀ env S, I xs env S → still S ∧ D.nx env S) : forW g b still (xs.map f) D env S := by
  refine forW_inv (fun i e s => I (xs.take i) e s) (by simpa using h0) ?_ ?_
  · intro i x e s hx hi N hN
    obtain ⟨a, ha, rfl, hm, hk⟩ := map_get hx
    refine hs (xs.take i) a (xs.drop (i + 1)) e s ?_ hi N fun e s h => hN e s (by rw [take_snoc ha]; exact h)
    have e1 : xs[i] = a := by
      have := List.getElem?_eq_getElem hk
      rw [this] at ha
      exact Option.some.inj ha
    rw [← e1, ← List.drop_eq_getElem_cons hk, List.take_append_drop]
  · intro e s h
    rw [List.length_map, List.take_length] at h
    exact he e s h
/-! ### more equations -/
section
variable {di di1 : DI} {g g1 : DG} {dt dt1 : DT} {dk dv de : DE} {vs vs1 : List Nat} {env : Slots} {S : Sto} {Q : WK} {dr : DA} {da : DE} {q : List W → (Sto → Prop) → Sto → Prop}
theorem e_dictC : dDictC di g dt dk dv vs env S Q = di env S fun its still S1 => dictW g dt dk dv vs still env Q its [] S1 := rfl
theorem e_sc2 : dSortSC2 di g dt di1 g1 dt1 de vs vs1 env S Q = di env S fun its still S1 =>
  setW2 g dt di1 g1 dt1 de vs vs1 still env (fun acc S2 => AlikeK acc ∧ ∀ us, Once acc us → Q (.ref S2.length) (S2 ++ [.lst ((us.map wK).mergeSort leW)])) its [] S1 := rfl
theorem e_rng3 : DL.iRng3 dr env S q = dr env S fun ws S1 => ∃ (i j c : Int) (n : Nat), ws = [.int i, .int j, .int c] ∧ RgC i j c n ∧ q (rngC i c n) (fun _ => True) S1 := rfl
theorem e_zip : iZip dr env S q = dr env S fun us S1 => match us with
  | [w1, w2] => (isTupW w1 = false → isTupW w2 = false) ∧ vSeqI w1 S1 fun xs st1 S2 => vSeqI w2 S2 fun ys st2 => q (zipW xs ys) (fun S => st1 S ∧ st2 S)
  | _ => False := rfl
theorem e_iseqF : iSeqF da env S q = da env S fun w S1 => vSeqF w S1 q := rfl
end
theorem dictW_inv {g : DG} {tt : DT} {tk tv : DE} {vs : List Nat} {still : Sto → Prop} {env : Slots} {Q : WK} {its : List W} {S : Sto} (I : Nat → List (Key × W) → Sto → Prop) (h0 : I 0 [] S)
    (hs : ∀ (i : Nat) (x : W) (acc : List (Key × W)) (S : Sto), its[i]? = some x → I i acc S → ∀ N : List (Key × W) → Sto → Prop, (∀ a s, I (i + 1) a s → N a s) → still S ∧ g x (wipeW env vs) S fun env2 S2 => tt env2 S2 fun b S3 => if b = true then tk env2 S3 fun y S4 => tv env2 S4 fun z S5 => ∃ k, y = wK k ∧ acc.length < sizeLine ∧ N (putW acc k z) S5 else N acc S3)
    (he : ∀ acc S, I its.length acc S → still S ∧ Q (.ref S.length) (S ++ [.dk acc])) : dictW g tt tk tv vs still env Q its [] S := by
  have go : ∀ (n i : Nat) (acc : List (Key × W)) (S : Sto), i + n = its.length → I i acc S → dictW g tt tk tv vs still env Q (its.drop i) acc S := by
    intro n
    induction n with
    | zero =>
      intro i acc S hn hi
      have e : i = its.length := by omega
      subst e
      rw [List.drop_length]
      exact he acc S hi
    | succ n ih =>
      intro i acc S hn hi
      have hlt : i < its.length := by omega
      rw [List.drop_eq_getElem_cons hlt]
      exact hs i its[i] acc S (List.getElem?_eq_getElem hlt) hi (fun a s => dictW g tt tk tv vs still env Q (its.drop (i + 1)) a s) fun a s h => ih (i + 1) a s (by omega) h
  have z := go its.length 0 [] S (by omega) h0
  rwa [List.drop_zero] at z
/-! ### dicts of tuple keys -/
section
variable {P : Program} {w : World} {S : Sto} {Q : WK} {p : Nat} {z : Option Obj} {kvs : List (W × W)} {k v : W}
theorem e_dictN {env : Slots} : dDictN P w env S Q = Q (.ref S.length) (S ++ [.nd P w none []]) := rfl
theorem ndix_ok (h : S[p]? = some (.nd P w z kvs)) (hk : HkW k) (hv : valN kvs k = some v) (q : Q v S) : vIxN P w (.ref p) k S Q := ⟨z, kvs, v, h, hk, hv, q⟩
theorem ndset_ok {Q : Sto → Prop} (h : S[p]? = some (.nd P w none kvs)) (hk : HkW k) (hl : kvs.length ≤ 99998) (q : Q (S.set p (.nd P w none (putN kvs k v)))) : vSetN2 P w (.ref p) k v S Q := ⟨kvs, h, hk, lt_sz hl, q⟩
theorem ndin_ok {n : Bool} (h : S[p]? = some (.nd P w z kvs)) (hk : HkW k) (q : Q (.bl (n ^^ (valN kvs k).isSome)) S) : vInN P w n k (.ref p) S Q := ⟨z, kvs, h, hk, q⟩
theorem e_nget1 {d0 da : DE} {env : Slots} : dNGet1 P w d0 da env S Q = d0 env S fun x S1 => ∃ p, x = .ref p ∧ (∃ z kvs, S1[p]? = some (.nd P w z kvs)) ∧ da env S1 fun y S2 => ∃ z kvs, S2[p]? = some (.nd P w z kvs) ∧ HkW y ∧ Q ((valN kvs y).getD .non) S2 := rfl
theorem e_nget2 {d0 da dx : DE} {env : Slots} : dNGet2 P w d0 da dx env S Q = d0 env S fun x S1 => ∃ p, x = .ref p ∧ (∃ z kvs, S1[p]? = some (.nd P w z kvs)) ∧ da env S1 fun y S2 => dx env S2 fun u S3 => ∃ z kvs, S3[p]? = some (.nd P w z kvs) ∧ HkW y ∧ Q ((valN kvs y).getD u) S3 := rfl
theorem e_lockN {fn : W × W → W} {d : DE} {env : Slots} {q : List W → (Sto → Prop) → Sto → Prop} : iLockN P w fn d env S q = d env S fun x S1 => ∃ p z kvs, x = .ref p ∧ S1[p]? = some (.nd P w z kvs) ∧ ∀ o, q (kvs.map fn) (fun _ => True) (S1.set p (.nd P w (some o) kvs)) := rfl
theorem e_dictCN {di : DI} {g : DG} {tt : DT} {tk tv : DE} {vs : List Nat} {env : Slots} : dDictCN P w di g tt tk tv vs env S Q = di env S fun its still S1 => dictWN P w g tt tk tv vs still env Q its [] S1 := rfl
end
theorem e_disp {ds : List (DE × DE)} {env : Slots} {S : Sto} {Q : WK} : dDisp ds env S Q = aPairs ds env S fun ps S1 => ∃ kvs : List (Key × W), ps = kvs.map (fun kv => (wK kv.1, kv.2)) ∧ kvs.length ≤ 15 ∧ Q (.ref S1.length) (S1 ++ [.dk (kvs.foldl (fun acc kv => putW acc kv.1 kv.2) [])]) := rfl
theorem e_ap0 {env : Slots} {S : Sto} {Q : List (W × W) → Sto → Prop} : aPairs [] env S Q = Q [] S := rfl
theorem e_ap1 {dk dv : DE} {r : List (DE × DE)} {env : Slots} {S : Sto} {Q : List (W × W) → Sto → Prop} : aPairs ((dk, dv) :: r) env S Q = dk env S fun x S1 => dv env S1 fun y S2 => aPairs r env S2 fun ps S3 => Q ((x, y) :: ps) S3 := rfl
theorem dictWN_inv {P : Program} {w : World} {g : DG} {tt : DT} {tk tv : DE} {vs : List Nat} {still : Sto → Prop} {env : Slots} {Q : WK} {its : List W} {S : Sto} (I : Nat → List (W × W) → Sto → Prop) (h0 : I 0 [] S)
    (hs : ∀ (i : Nat) (x : W) (acc : List (W × W)) (S : Sto), its[i]? = some x → I i acc S → ∀ N : List (W × W) → Sto → Prop, (∀ a s, I (i + 1) a s → N a s) → still S ∧ g x (wipeW env vs) S fun env2 S2 => tt env2 S2 fun b S3 => if b = true then tk env2 S3 fun y S4 => tv env2 S4 fun z S5 => HkW y ∧ acc.length < sizeLine ∧ N (putN acc y z) S5 else N acc S3)
    (he : ∀ acc S, I its.length acc S → still S ∧ Q (.ref S.length) (S ++ [.nd P w none acc])) : dictWN P w g tt tk tv vs still env Q its [] S := by
  have go : ∀ (n i : Nat) (acc : List (W × W)) (S : Sto), i + n = its.length → I i acc S → dictWN P w g tt tk tv vs still env Q (its.drop i) acc S := by
    intro n
    induction n with
    | zero =>
      intro i acc S hn hi
      have e : i = its.length := by omega
      subst e
      rw [List.drop_length]
      exact he acc S hi
    | succ n ih =>
      intro i acc S hn hi
      have hlt : i < its.length := by omega
      rw [List.drop_eq_getElem_cons hlt]
      exact hs i its[i] acc S (List.getElem?_eq_getElem hlt) hi (fun a s => dictWN P w g tt tk tv vs still env Q (its.drop (i + 1)) a s) fun a s h => ih (i + 1) a s (by omega) h
  have z := go its.length 0 [] S (by omega) h0
  rwa [List.drop_zero] at z
/-! ### tuples of whole numbers as keys -/
abbrev intsT (r : List Int) : W := .tup (r.map W.int)
theorem nkWs_ints : ∀ a b : List Int, nkWs (a.map W.int) = nkWs (b.map W.int) → a = b
  | [], [], _ => rfl
  | [], _ :: _, h => by simp [nkWs] at h
  | _ :: _, [], h => by simp [nkWs] at h
  | x :: a, y :: b, h => by
    simp only [List.map_cons, nkWs, nkW] at h
    obtain ⟨h1, h2⟩ := List.cons.inj h
    have e : x = y := by injection h1
    rw [e, nkWs_ints a b h2]
theorem nkW_intsT {a b : List Int} : nkW (intsT a) = nkW (intsT b) ↔ a = b := by
  refine ⟨fun h => ?_, fun h => by rw [h]⟩
  have h2 : NestedKey.tup (nkWs (a.map W.int)) = NestedKey.tup (nkWs (b.map W.int)) := h
  injection h2 with h3
  exact nkWs_ints a b h3
theorem hk_ints : ∀ a : List Int, W.hkL (a.map W.int) = true
  | [] => rfl
  | x :: a => by
    show (true && W.hkL (a.map W.int)) = true
    rw [hk_ints a]
    rfl
theorem dep_ints : ∀ a : List Int, NestedKey.depthAll (nkWs (a.map W.int)) = 0
  | [] => rfl
  | x :: a => by
    show max (NestedKey.depth (.num x)) (NestedKey.depthAll (nkWs (a.map W.int))) = 0
    rw [dep_ints a]
    rfl
theorem hkW_ints (a : List Int) : HkW (intsT a) := by
  refine ⟨hk_ints a, ?_, _, rfl⟩
  show NestedKey.depth (.tup (nkWs (a.map W.int))) ≤ 8
  show NestedKey.depthAll (nkWs (a.map W.int)) + 1 ≤ 8
  rw [dep_ints]
  decide
theorem std_ints (a : List Int) : (intsT a).std = true := (stdL_iff _).mpr fun w hw => by
  obtain ⟨i, _, rfl⟩ := List.mem_map.mp hw
  rfl
theorem isK_ints (a : List Int) : IsK (.seq .i) (intsT a) := ⟨_, rfl, fun u hu => by
  obtain ⟨i, _, rfl⟩ := List.mem_map.mp hu
  exact ⟨i, rfl⟩⟩
theorem intsT_inj {a b : List Int} : intsT a = intsT b ↔ a = b := by
  refine ⟨fun h => ?_, fun h => by rw [h]⟩
  injection h with h
  exact List.map_inj_right (fun x y e => by injection e) |>.mp h
theorem eq_ints {n : Bool} {a b : List Int} {S : Sto} {Q : WK} (q : Q (.bl (n ^^ decide (a = b))) S) : vEqG n (intsT a) (intsT b) S Q :=
  eq_std (std_ints a) (std_ints b) (isK_ints a) (isK_ints b) _ intsT_inj (by decide) q ⟨_, rfl⟩
end DL

/-! DCS: texts. -/
namespace DL
open PySem PySem.Spec PyProof.Rows L2 TL
theorem ok_one {c : Nat} (h : c < 128) : PyData.strOk ⟨#[c]⟩ = true := by
  simp [PyData.strOk]
  omega
theorem ok_tl (x : Str) : PyData.strOk x = (tl x).all (fun c => decide (c < 0x110000)) := by
  unfold PyData.strOk tl
  rw [Array.all_toList]
theorem ok_app {a b : Str} (h : PyData.strOk a = true) (h2 : PyData.strOk b = true) : PyData.strOk (a ++ b) = true := by
  rw [ok_tl] at *
  rw [tl_append, List.all_append, h, h2]
  rfl
theorem len_one (c : Nat) : (⟨#[c]⟩ : Str).length = 1 := rfl
theorem len_app (a b : Str) : (a ++ b).length = a.length + b.length := by rw [len_tl, tl_append, List.length_append, ← len_tl, ← len_tl]
theorem log_str {j : Int} (h0 : 0 ≤ j) (h : j < 18446744073709551616) : j.natAbs.log2 < 1920 := by
  have e : (2 : Nat) ^ 64 = 18446744073709551616 := by decide
  have h1 : j.natAbs < 2 ^ 64 := by omega
  exact PySem.Flt.log2_lt_of (by decide) (Nat.lt_of_lt_of_le h1 (Nat.pow_le_pow_right (by decide) (by decide)))
theorem ok_num (n : Nat) : PyData.strOk (Str.ofString (toString ((n : Nat) : Int))) = true := by
  rw [ok_tl, tl_num, List.all_eq_true]
  intro d hd
  obtain ⟨h1, h2⟩ := numL_digits n d hd
  exact decide_eq_true (by omega)
theorem len_num {n k : Nat} (hk : 0 < k) (h : n < 10 ^ k) : (Str.ofString (toString ((n : Nat) : Int))).length ≤ k := by
  rw [len_tl, tl_num]
  exact numL_len hk h
theorem tl_cutTo (z : Str) (k : Nat) : tl (cutS z none (some (k : Int))) = (tl z).take k := by
  show ((z.cps.toList.drop (HT.sIx z.length 0 none)).take (HT.sIx z.length z.length (some (k : Int)) - HT.sIx z.length 0 none)) = z.cps.toList.take k
  have e1 : HT.sIx z.length z.length (some (k : Int)) = min k z.length := HT.sIx_nat _ _ k
  rw [e1, HT.sIx_none, List.drop_zero, Nat.sub_zero]
  have e3 : z.length = z.cps.toList.length := len_tl z
  rw [e3]
  by_cases h : k ≤ z.cps.toList.length
  · rw [Nat.min_eq_left h]
  · rw [Nat.min_eq_right (by omega), List.take_length, List.take_of_length_le (by omega)]
theorem ok_cut {z : Str} (h : PyData.strOk z = true) (k : Nat) : PyData.strOk (cutS z none (some (k : Int))) = true := by
  rw [ok_tl] at *
  rw [tl_cutTo, List.all_eq_true] at *
  exact fun x hx => h x (List.mem_of_mem_take hx)
theorem abc_len : (Str.ofString "abcdefghijklmnopqrstuvwxyz").length ≤ sizeLine := by decide +kernel
theorem abc_at {r : Int} (h0 : 0 ≤ r) (h1 : r < 26) : ∃ c, 97 ≤ c ∧ c ≤ 122 ∧ atI (Str.ofString "abcdefghijklmnopqrstuvwxyz").cps.toList r = some c := by
  have e : r = ((r.toNat : Nat) : Int) := by omega
  have hs : (Str.ofString "abcdefghijklmnopqrstuvwxyz").cps.toList = (List.range 26).map (97 + ·) := by decide +kernel
  have hl : r.toNat < 26 := by omega
  refine ⟨97 + r.toNat, by omega, by omega, (congrArg _ e).trans (atI_nat ?_)⟩
  rw [hs, List.getElem?_map, List.getElem?_range hl]
  rfl
end DL

/-! k25: each def's slots, what it denotes, its derivation (printed by gen.py). -/
namespace K25
open PySem PySem.Spec PyProof.Rows L2 DL
def topS (i : Nat) : Stmt := PySem.Challenge.pw_throughdoors_k25_shows_and_picks_by.main.body.getD i (.Pass ⟨0, 0, 0, 0⟩)
structure Txt (mg : Str → Option Value) : Prop where
  z_tuple : mg "tuple" = none
  z_len : mg "len" = none
  z_sorted : mg "sorted" = none
  z_int : mg "int" = none
  z_abs : mg "abs" = none
  z_list : mg "list" = none
  z_range : mg "range" = none
  z_str : mg "str" = none
  z_isinstance : mg "isinstance" = none
  z_bool : mg "bool" = none
/-! ### door_of -/
abbrev s_door_of : Stmt := topS 4
abbrev N_door_of : List Str := ["house", "name", "door"]
theorem sc_door_of : FnScope N_door_of ["house", "name"] (defScope s_door_of) := ⟨rfl, rfl, rfl, by decide +kernel, rfl, by decide +kernel, by decide +kernel⟩
def d_door_of : DS :=
(dSeq (dFor (iSeq (dOp vIxA (dVar 0) (dC (.int 2)))) (gNm 2)
(dIfS (dB (dOp vEq (dOp vIxA (dVar 2) (dC (.int 0))) (dVar 1)))
(dRet (dVar 2))
dNext))
dNever)
/-! ### told_of -/
abbrev s_told_of : Stmt := topS 5
abbrev N_told_of : List Str := ["door", "values", "column"]
theorem sc_told_of : FnScope N_told_of ["door", "values"] (defScope s_told_of) := ⟨rfl, rfl, rfl, by decide +kernel, rfl, by decide +kernel, by decide +kernel⟩
def d_told_of : DS :=
(dRet (dCB vTuple (aCons (dComp (iSeq (dOp vIxA (dVar 0) (dC (.int 2)))) (gNm 2) dYes (dOp vIxA (dVar 1) (dVar 2)) [2]) aNil)))
/-! ### rows_of -/
abbrev s_rows_of : Stmt := topS 7
abbrev N_rows_of : List Str := ["store", "table", "row"]
theorem sc_rows_of : FnScope N_rows_of ["store", "table"] (defScope s_rows_of) := ⟨rfl, rfl, rfl, by decide +kernel, rfl, by decide +kernel, by decide +kernel⟩
def d_rows_of : DS :=
(dRet (dCB vTuple (aCons (dComp (iSeq (dVar 0)) (gNm 2) (dB (dOp vEq (dOp vIxA (dVar 2) (dC (.int 0))) (dVar 1))) (dOp vIxA (dVar 2) (dC (.int 1))) [2]) aNil)))
/-! ### matched_by -/
abbrev s_matched_by : Stmt := topS 9
abbrev N_matched_by : List Str := ["store", "door", "groups", "row"]
theorem sc_matched_by : FnScope N_matched_by ["store", "door"] (defScope s_matched_by) := ⟨rfl, rfl, rfl, by decide +kernel, rfl, by decide +kernel, by decide +kernel⟩
def d_matched_by (P : Program) (w : World) (F_rows_of : DSpec) (F_told_of : DSpec) : DS :=
(dSeq (dAsg (dDictN P w) (gNm 2))
(dSeq (dFor (iSeq (dCall F_rows_of (aCons (dVar 0) (aCons (dOp vIxA (dVar 1) (dC (.int 1))) aNil)))) (gNm 3)
(dDrop (dBM "list" vAppend (dNSd P w (dVar 2) (dCall F_told_of (aCons (dVar 1) (aCons (dVar 3) aNil))) (dLst aNil)) (aCons (dVar 3) aNil))))
(dRet (dVar 2))))
/-! ### shown_by -/
abbrev s_shown_by : Stmt := topS 10
abbrev N_shown_by : List Str := ["house", "store", "picks", "name", "door", "groups", "picked", "one", "told", "row", "rows"]
theorem sc_shown_by : FnScope N_shown_by ["house", "store", "picks", "name"] (defScope s_shown_by) := ⟨rfl, rfl, rfl, by decide +kernel, rfl, by decide +kernel, by decide +kernel⟩
def d_shown_by (P : Program) (w : World) (F_door_of : DSpec) (F_matched_by : DSpec) (F_picked_row : DSpec) : DS :=
(dSeq (dAsg (dCall F_door_of (aCons (dVar 0) (aCons (dVar 3) aNil))) (gNm 4))
(dSeq (dAsg (dCall F_matched_by (aCons (dVar 1) (aCons (dVar 4) aNil))) (gNm 5))
(dSeq (dIfS (dB (dOp vEq (dOp vIxA (dVar 4) (dC (.int 3))) (dC (.str (Str.ofString "all")))))
(dRet (dVar 5))
dNext)
(dSeq (dAsg (dDictCN P w (iSeq (dVar 2)) (gTp 3 (gC (gNm 7) (gC (gNm 8) (gC (gNm 9) gN0)))) (dB (dOp vEq (dVar 7) (dVar 3))) (dVar 8) (dVar 9) [7, 8, 9]) (gNm 6))
(dRet (dDictCN P w (iLockN P w pairN (dVar 5)) (gTp 2 (gC (gNm 8) (gC (gNm 10) gN0))) dYes (dVar 8) (dLst (aCons (dCall F_picked_row (aCons (dVar 10) (aCons (dNGet1 P w (dVar 6) (dVar 8)) aNil))) aNil)) [8, 10]))))))
/-! ### picked_row -/
abbrev s_picked_row : Stmt := topS 11
abbrev N_picked_row : List Str := ["rows", "row"]
theorem sc_picked_row : FnScope N_picked_row ["rows", "row"] (defScope s_picked_row) := ⟨rfl, rfl, rfl, by decide +kernel, rfl, by decide +kernel, by decide +kernel⟩
def d_picked_row : DS :=
(dRet (dIf (dB (dOp (vInP false) (dVar 1) (dVar 0))) (dVar 1) (dOp vIxA (dVar 0) (dC (.int 0)))))
/-! ### shows -/
abbrev s_shows : Stmt := topS 12
abbrev N_shows : List Str := ["house", "store", "picks", "door", "values"]
theorem sc_shows : FnScope N_shows ["house", "store", "picks", "door", "values"] (defScope s_shows) := ⟨rfl, rfl, rfl, by decide +kernel, rfl, by decide +kernel, by decide +kernel⟩
def d_shows (P : Program) (w : World) (F_shown_by : DSpec) : DS :=
(dRet (dCB vTuple (aCons (dNGet2 P w (dCall F_shown_by (aCons (dVar 0) (aCons (dVar 1) (aCons (dVar 2) (aCons (dVar 3) aNil))))) (dVar 4) (dLst aNil)) aNil)))
/-! ### picks_by -/
abbrev s_picks_by : Stmt := topS 13
abbrev N_picks_by : List Str := ["house", "store", "number", "picks", "door", "told", "rows"]
theorem sc_picks_by : FnScope N_picks_by ["house", "store", "number"] (defScope s_picks_by) := ⟨rfl, rfl, rfl, by decide +kernel, rfl, by decide +kernel, by decide +kernel⟩
def d_picks_by (P : Program) (w : World) (F_matched_by : DSpec) : DS :=
(dSeq (dAsg (dLst aNil) (gNm 3))
(dSeq (dFor (iSeq (dOp vIxA (dVar 0) (dC (.int 2)))) (gNm 4)
(dIfS (dB (dOp vEq (dOp vIxA (dVar 4) (dC (.int 3))) (dC (.str (Str.ofString "one")))))
(dFor (iLockN P w pairN (dCall F_matched_by (aCons (dVar 1) (aCons (dVar 4) aNil)))) (gTp 2 (gC (gNm 5) (gC (gNm 6) gN0)))
(dDrop (dBM "list" vAppend (dVar 3) (aCons (dTup (aCons (dOp vIxA (dVar 4) (dC (.int 0))) (aCons (dVar 5) (aCons (dOp vIxA (dVar 6) (dOp vMod (dVar 2) (dCB vLenA (aCons (dVar 6) aNil)))) aNil)))) aNil))))
dNext))
(dRet (dCB vTuple (aCons (dCB vSortE (aCons (dVar 3) aNil)) aNil)))))
/-! ### _law_source -/
abbrev s_law_source : Stmt := topS 15
abbrev N_law_source : List Str := ["script", "cells", "cell"]
theorem sc_law_source : FnScope N_law_source ["script"] (defScope s_law_source) := ⟨rfl, rfl, rfl, by decide +kernel, rfl, by decide +kernel, by decide +kernel⟩
def d_law_source : DS :=
(dSeq (dAsg (dComp (iSeq (dSl vSl (dVar 0) oNone (oSome (dC (.int 63))))) (gNm 2) dYes (dCB vIntOf (aCons (dVar 2) aNil)) [2]) (gNm 1))
(dSeq (dIfS (dB (dOp vEq (dCB vLenA (aCons (dVar 1) aNil)) (dC (.int 0))))
(dAsg (dLst (aCons (dC (.int 0)) aNil)) (gNm 1))
dNext)
(dRet (dDisp [((dC (.str (Str.ofString "cells"))), (dVar 1)), ((dC (.str (Str.ofString "great"))), (dComp (iSeq (dVar 1)) (gNm 2) (dB (dOp vGe (dCB (vI1 fun i => .int (if i < 0 then -i else i)) (aCons (dVar 2) aNil)) (dOp vPow (dC (.int 10)) (dC (.int 18))))) (dCB (vI1 fun i => .int (if i < 0 then -i else i)) (aCons (dVar 2) aNil)) [2])), ((dC (.str (Str.ofString "rest"))), (dC (.int 0))), ((dC (.str (Str.ofString "count"))), (dC (.int 0)))]))))
/-! ### _law_draw -/
abbrev s_law_draw : Stmt := topS 16
abbrev N_law_draw : List Str := ["source", "many", "value", "count", "cell", "one", "two"]
theorem sc_law_draw : FnScope N_law_draw ["source", "many"] (defScope s_law_draw) := ⟨rfl, rfl, rfl, by decide +kernel, rfl, by decide +kernel, by decide +kernel⟩
def d_law_draw : DS :=
(dSeq (dIfS (dAndT (dB (dOp vEq (dOp vIxA (dVar 0) (dC (.str (Str.ofString "rest")))) (dC (.int 0)))) (dB (dOp vGt (dCB vLenA (aCons (dOp vIxA (dVar 0) (dC (.str (Str.ofString "great")))) aNil)) (dC (.int 0)))))
(dAsg (dBM "list" vPop1 (dOp vIxA (dVar 0) (dC (.str (Str.ofString "great")))) (aCons (dC (.int 0)) aNil)) (gSb (dVar 0) (dC (.str (Str.ofString "rest"))) vSetA))
dNext)
(dSeq (dIfS (dB (dOp vGt (dOp vIxA (dVar 0) (dC (.str (Str.ofString "rest")))) (dC (.int 0))))
(dSeq (dAsg (dOp vMod (dCB vIntOf (aCons (dOp vIxA (dVar 0) (dC (.str (Str.ofString "rest")))) aNil)) (dVar 1)) (gNm 2))
(dSeq (dAsg (dOp vDiv (dOp vIxA (dVar 0) (dC (.str (Str.ofString "rest")))) (dVar 1)) (gSb (dVar 0) (dC (.str (Str.ofString "rest"))) vSetA))
(dRet (dVar 2))))
dNext)
(dSeq (dAsg (dOp vIxA (dVar 0) (dC (.str (Str.ofString "count")))) (gNm 3))
(dSeq (dAsg (dOp vAdd (dVar 3) (dC (.int 1))) (gSb (dVar 0) (dC (.str (Str.ofString "count"))) vSetA))
(dSeq (dAsg (dCB vIntOf (aCons (dOp vIxA (dOp vIxA (dVar 0) (dC (.str (Str.ofString "cells")))) (dOp vMod (dCB vIntOf (aCons (dVar 3) aNil)) (dCB vLenA (aCons (dOp vIxA (dVar 0) (dC (.str (Str.ofString "cells")))) aNil)))) aNil)) (gNm 4))
(dSeq (dAsg (dOp vAdd (dOp vAdd (dOp vMul (dOp vMul (dOp vAdd (dOp vMod (dCB vIntOf (aCons (dVar 4) aNil)) (dC (.int 1000081))) (dC (.int 7))) (dOp vAdd (dOp vMod (dCB vIntOf (aCons (dVar 3) aNil)) (dC (.int 4999))) (dC (.int 3)))) (dC (.int 5501))) (dOp vMul (dVar 3) (dC (.int 115249)))) (dOp vMul (dOp vMod (dCB vIntOf (aCons (dVar 4) aNil)) (dC (.int 7001))) (dC (.int 331)))) (gNm 5))
(dSeq (dAsg (dOp vAdd (dOp vMul (dOp vMod (dCB vIntOf (aCons (dVar 5) aNil)) (dC (.int 2147483543))) (dOp vAdd (dOp vMod (dCB vIntOf (aCons (dVar 5) aNil)) (dC (.int 65213))) (dC (.int 37)))) (dOp vMul (dVar 3) (dC (.int 22699)))) (gNm 6))
(dRet (dOp vMod (dOp vDiv (dOp vMod (dCB vIntOf (aCons (dVar 6) aNil)) (dC (.int 2147483323))) (dC (.int 23))) (dVar 1))))))))))
/-! ### _law_mix -/
abbrev s_law_mix : Stmt := topS 17
abbrev N_law_mix : List Str := ["source", "things", "out", "k", "other", "keep"]
theorem sc_law_mix : FnScope N_law_mix ["source", "things"] (defScope s_law_mix) := ⟨rfl, rfl, rfl, by decide +kernel, rfl, by decide +kernel, by decide +kernel⟩
def d_law_mix (F_law_draw : DSpec) : DS :=
(dSeq (dAsg (dCB vListA (aCons (dVar 1) aNil)) (gNm 2))
(dSeq (dFor (iRng1 (aCons (dCB vLenA (aCons (dVar 2) aNil)) aNil)) (gNm 3)
(dSeq (dAsg (dOp vAdd (dVar 3) (dCall F_law_draw (aCons (dVar 0) (aCons (dOp vSub (dCB vLenA (aCons (dVar 2) aNil)) (dVar 3)) aNil)))) (gNm 4))
(dSeq (dAsg (dOp vIxA (dVar 2) (dVar 3)) (gNm 5))
(dSeq (dAsg (dOp vIxA (dVar 2) (dVar 4)) (gSb (dVar 2) (dVar 3) vSetA))
(dAsg (dVar 5) (gSb (dVar 2) (dVar 4) vSetA))))))
(dRet (dVar 2))))
/-! ### _law_pool -/
abbrev s_law_pool : Stmt := topS 18
abbrev N_law_pool : List Str := ["source", "many", "letters", "names", "turn", "word"]
theorem sc_law_pool : FnScope N_law_pool ["source", "many"] (defScope s_law_pool) := ⟨rfl, rfl, rfl, by decide +kernel, rfl, by decide +kernel, by decide +kernel⟩
def d_law_pool (F_law_draw : DSpec) : DS :=
(dSeq (dAsg (dC (.str (Str.ofString "abcdefghijklmnopqrstuvwxyz"))) (gNm 2))
(dSeq (dAsg (dLst aNil) (gNm 3))
(dSeq (dFor (iRng1 (aCons (dVar 1) aNil)) (gNm 4)
(dSeq (dAsg (dOp vAdd (dOp vIxA (dVar 2) (dCall F_law_draw (aCons (dVar 0) (aCons (dC (.int 26)) aNil)))) (dCB vStrOf (aCons (dCall F_law_draw (aCons (dVar 0) (aCons (dC (.int 10)) aNil))) aNil))) (gNm 5))
(dSeq (dIfS (dAndT (dB (dOp vGt (dCB vLenA (aCons (dVar 3) aNil)) (dC (.int 0)))) (dB (dOp vEq (dCall F_law_draw (aCons (dVar 0) (aCons (dC (.int 4)) aNil))) (dC (.int 0)))))
(dAsg (dOp vAdd (dSl vSl (dOp vIxA (dVar 3) (dCall F_law_draw (aCons (dVar 0) (aCons (dCB vLenA (aCons (dVar 3) aNil)) aNil)))) oNone (oSome (dC (.int 6)))) (dOp vIxA (dVar 2) (dCall F_law_draw (aCons (dVar 0) (aCons (dC (.int 26)) aNil))))) (gNm 5))
dNext)
(dDrop (dBM "list" vAppend (dVar 3) (aCons (dIf (dB (dOp (vInA true) (dVar 5) (dVar 3))) (dVar 5) (dOp vAdd (dC (.str (Str.ofString "jj"))) (dCB vStrOf (aCons (dVar 4) aNil)))) aNil))))))
(dRet (dVar 3)))))
/-! ### _law_pool_values -/
abbrev s_law_pool_values : Stmt := topS 19
abbrev N_law_pool_values : List Str := ["source", "base", "out", "value"]
theorem sc_law_pool_values : FnScope N_law_pool_values ["source"] (defScope s_law_pool_values) := ⟨rfl, rfl, rfl, by decide +kernel, rfl, by decide +kernel, by decide +kernel⟩
def d_law_pool_values (F_law_draw : DSpec) (F_law_mix : DSpec) : DS :=
(dSeq (dAsg (dLst (aCons (dC (.int 0)) (aCons (dC (.int 1)) (aCons (dC (.int 2)) (aCons (dC (.int 9)) (aCons (dC (.int 10)) (aCons (dC (.int 11)) (aCons (dC (.int 99)) (aCons (dC (.int 100)) (aCons (dOp vPow (dC (.int 10)) (dC (.int 12))) (aCons (dOp vSub (dOp vPow (dC (.int 10)) (dC (.int 12))) (dC (.int 1))) (aCons (dCall F_law_draw (aCons (dVar 0) (aCons (dOp vPow (dC (.int 10)) (dC (.int 6))) aNil))) (aCons (dOp vAdd (dOp vMul (dCall F_law_draw (aCons (dVar 0) (aCons (dOp vPow (dC (.int 10)) (dC (.int 6))) aNil))) (dOp vPow (dC (.int 10)) (dC (.int 6)))) (dC (.int 7))) aNil))))))))))))) (gNm 1))
(dSeq (dAsg (dLst aNil) (gNm 2))
(dSeq (dFor (iSeq (dSl vSl (dCall F_law_mix (aCons (dVar 0) (aCons (dVar 1) aNil))) oNone (oSome (dOp vAdd (dC (.int 3)) (dCall F_law_draw (aCons (dVar 0) (aCons (dC (.int 5)) aNil))))))) (gNm 3)
(dIfS (dB (dOp (vInA true) (dVar 3) (dVar 2)))
(dDrop (dBM "list" vAppend (dVar 2) (aCons (dVar 3) aNil)))
dNext))
(dRet (dVar 2)))))
/-! ### _law_house -/
abbrev s_law_house : Stmt := topS 20
abbrev N_law_house : List Str := ["source", "names", "values", "base", "tables", "free", "shared", "doors", "table", "peep", "turn", "kind", "told", "ties", "rules", "body", "known", "k", "c"]
theorem sc_law_house : FnScope N_law_house ["source", "names", "values"] (defScope s_law_house) := ⟨rfl, rfl, rfl, by decide +kernel, rfl, by decide +kernel, by decide +kernel⟩
def d_law_house (F_law_draw : DSpec) (F_law_mix : DSpec) : DS :=
(dSeq (dAsg (dOp vAdd (dC (.int 1)) (dCall F_law_draw (aCons (dVar 0) (aCons (dC (.int 4)) aNil)))) (gNm 3))
(dSeq (dAsg (dComp (iRng1 (aCons (dOp vAdd (dC (.int 1)) (dCall F_law_draw (aCons (dVar 0) (aCons (dC (.int 4)) aNil)))) aNil)) (gNm 17) dYes (dTup (aCons (dOp vIxA (dVar 1) (dVar 17)) (aCons (dIf (dB (dOp vEq (dCall F_law_draw (aCons (dVar 0) (aCons (dC (.int 2)) aNil))) (dC (.int 0)))) (dVar 3) (dOp vAdd (dC (.int 1)) (dCall F_law_draw (aCons (dVar 0) (aCons (dC (.int 4)) aNil))))) aNil))) [17]) (gNm 4))
(dSeq (dAsg (dCall F_law_mix (aCons (dVar 0) (aCons (dVar 1) aNil))) (gNm 5))
(dSeq (dAsg (dComp (iRng1 (aCons (dVar 3) aNil)) (gNm 18) (dB (dOp vEq (dCall F_law_draw (aCons (dVar 0) (aCons (dC (.int 2)) aNil))) (dC (.int 0)))) (dVar 18) [18]) (gNm 6))
(dSeq (dAsg (dLst aNil) (gNm 7))
(dSeq (dFor (iSeq (dVar 4)) (gNm 8)
(dSeq (dAsg (dCall F_law_draw (aCons (dVar 0) (aCons (dC (.int 3)) aNil))) (gNm 9))
(dFor (iRng1 (aCons (dCall F_law_draw (aCons (dVar 0) (aCons (dC (.int 4)) aNil))) aNil)) (gNm 10)
(dSeq (dAsg (dCall F_law_draw (aCons (dVar 0) (aCons (dC (.int 4)) aNil))) (gNm 11))
(dSeq (dAsg (dComp (iRng1 (aCons (dOp vIxA (dVar 8) (dC (.int 1))) aNil)) (gNm 18) (dOrT (dB (dOp vEq (dVar 11) (dC (.int 1)))) (dOrT (dAndT (dB (dOp vEq (dVar 11) (dC (.int 2)))) (dB (dOp vEq (dVar 18) (dC (.int 0))))) (dAndT (dB (dOp vEq (dVar 11) (dC (.int 3)))) (dB (dOp vEq (dCall F_law_draw (aCons (dVar 0) (aCons (dC (.int 2)) aNil))) (dC (.int 0))))))) (dVar 18) [18]) (gNm 12))
(dSeq (dIfS (dAndT (dB (dOp vEq (dOp vIxA (dVar 8) (dC (.int 1))) (dVar 3))) (dB (dOp vEq (dCall F_law_draw (aCons (dVar 0) (aCons (dC (.int 2)) aNil))) (dC (.int 0)))))
(dAsg (dVar 6) (gNm 12))
dNext)
(dIfS (dB (dOp vLt (dCB vLenA (aCons (dVar 7) aNil)) (dC (.int 8))))
(dDrop (dBM "list" vAppend (dVar 7) (aCons (dTup (aCons (dOp vIxA (dVar 5) (dCB vLenA (aCons (dVar 7) aNil))) (aCons (dOp vIxA (dVar 8) (dC (.int 0))) (aCons (dCB vTuple (aCons (dVar 12) aNil)) (aCons (dIf (dB (dOp vEq (dVar 10) (dVar 9))) (dC (.str (Str.ofString "one"))) (dC (.str (Str.ofString "all")))) aNil))))) aNil)))
dNext)))))))
(dSeq (dIfS (dB (dOp vEq (dCB vLenA (aCons (dVar 7) aNil)) (dC (.int 0))))
(dAsg (dLst (aCons (dTup (aCons (dOp vIxA (dVar 5) (dC (.int 0))) (aCons (dOp vIxA (dOp vIxA (dVar 4) (dC (.int 0))) (dC (.int 0))) (aCons (dTup aNil) (aCons (dC (.str (Str.ofString "one"))) aNil))))) aNil)) (gNm 7))
dNext)
(dSeq (dAsg (dComp (iSeq (dVar 4)) (gNm 8) (dAndT (dB (dOp vGt (dOp vIxA (dVar 8) (dC (.int 1))) (dC (.int 1)))) (dB (dOp vEq (dCall F_law_draw (aCons (dVar 0) (aCons (dC (.int 2)) aNil))) (dC (.int 0))))) (dTup (aCons (dOp vIxA (dVar 8) (dC (.int 0))) (aCons (dTup (aCons (dC (.int 0)) aNil)) (aCons (dC (.int 1)) aNil)))) [8]) (gNm 13))
(dSeq (dAsg (dLst aNil) (gNm 14))
(dSeq (dIfS (dAndT (dB (dOp vGt (dCB vLenA (aCons (dVar 4) aNil)) (dC (.int 1)))) (dB (dOp vEq (dCall F_law_draw (aCons (dVar 0) (aCons (dC (.int 2)) aNil))) (dC (.int 0)))))
(dSeq (dAsg (dTup (aCons (dOp vIxA (dOp vIxA (dVar 4) (dC (.int 0))) (dC (.int 0))) (aCons (dCB vTuple (aCons (dSl vSl (dVar 1) oNone (oSome (dOp vIxA (dOp vIxA (dVar 4) (dC (.int 0))) (dC (.int 1))))) aNil)) aNil))) (gNm 15))
(dAsg (dLst (aCons (dTup (aCons (dTup (aCons (dVar 15) aNil)) (aCons (dTup (aCons (dOp vIxA (dOp vIxA (dVar 4) (dC (.int 1))) (dC (.int 0))) (aCons (dCB vTuple (aCons (dComp (iRng1 (aCons (dOp vIxA (dOp vIxA (dVar 4) (dC (.int 1))) (dC (.int 1))) aNil)) (gNm 18) dYes (dOp vIxA (dVar 1) (dC (.int 0))) [18]) aNil)) aNil))) aNil))) aNil)) (gNm 14)))
dNext)
(dSeq (dAsg (dCB vTuple (aCons (dCB vSortE (aCons (dSl vSl (dVar 2) oNone (oSome (dCall F_law_draw (aCons (dVar 0) (aCons (dC (.int 3)) aNil))))) aNil)) aNil)) (gNm 16))
(dRet (dTup (aCons (dCB vTuple (aCons (dVar 4) aNil)) (aCons (dVar 16) (aCons (dCB vTuple (aCons (dCB vSortE (aCons (dVar 7) aNil)) aNil)) (aCons (dCB vTuple (aCons (dVar 14) aNil)) (aCons (dCB vTuple (aCons (dVar 13) aNil)) (aCons (dTup aNil) aNil)))))))))))))))))))
/-! ### _law_store -/
abbrev s_law_store : Stmt := topS 21
abbrev N_law_store : List Str := ["source", "house", "values", "many", "rows", "turn", "table", "row", "twins", "one", "c"]
theorem sc_law_store : FnScope N_law_store ["source", "house", "values", "many"] (defScope s_law_store) := ⟨rfl, rfl, rfl, by decide +kernel, rfl, by decide +kernel, by decide +kernel⟩
def d_law_store (F_law_draw : DSpec) : DS :=
(dSeq (dAsg (dLst aNil) (gNm 4))
(dSeq (dFor (iRng1 (aCons (dVar 3) aNil)) (gNm 5)
(dSeq (dAsg (dOp vIxA (dOp vIxA (dVar 1) (dC (.int 0))) (dCall F_law_draw (aCons (dVar 0) (aCons (dCB vLenA (aCons (dOp vIxA (dVar 1) (dC (.int 0))) aNil)) aNil)))) (gNm 6))
(dSeq (dAsg (dTup (aCons (dOp vIxA (dVar 6) (dC (.int 0))) (aCons (dCB vTuple (aCons (dComp (iRng1 (aCons (dOp vIxA (dVar 6) (dC (.int 1))) aNil)) (gNm 10) dYes (dOp vIxA (dVar 2) (dCall F_law_draw (aCons (dVar 0) (aCons (dCB vLenA (aCons (dVar 2) aNil)) aNil)))) [10]) aNil)) aNil))) (gNm 7))
(dSeq (dAsg (dComp (iSeq (dOp vIxA (dVar 1) (dC (.int 0)))) (gNm 9) (dB (dOp vEq (dOp vIxA (dVar 9) (dC (.int 1))) (dOp vIxA (dVar 6) (dC (.int 1))))) (dTup (aCons (dOp vIxA (dVar 9) (dC (.int 0))) (aCons (dOp vIxA (dVar 7) (dC (.int 1))) aNil))) [9]) (gNm 8))
(dFor (iSeq (dIf (dB (dOp vEq (dCall F_law_draw (aCons (dVar 0) (aCons (dC (.int 2)) aNil))) (dC (.int 0)))) (dLst (aCons (dVar 7) aNil)) (dVar 8))) (gNm 9)
(dIfS (dB (dOp (vInP true) (dVar 9) (dVar 4)))
(dDrop (dBM "list" vAppend (dVar 4) (aCons (dVar 9) aNil)))
dNext))))))
(dRet (dCB vTuple (aCons (dCB vSortE (aCons (dVar 4) aNil)) aNil)))))
/-! ### _law_wide -/
abbrev s_law_wide : Stmt := topS 22
abbrev N_law_wide : List Str := ["source", "house", "rows", "table", "big", "step", "k", "row", "c"]
theorem sc_law_wide : FnScope N_law_wide ["source", "house"] (defScope s_law_wide) := ⟨rfl, rfl, rfl, by decide +kernel, rfl, by decide +kernel, by decide +kernel⟩
def d_law_wide (F_law_draw : DSpec) : DS :=
(dSeq (dAsg (dLst aNil) (gNm 2))
(dSeq (dFor (iSeq (dOp vIxA (dVar 1) (dC (.int 0)))) (gNm 3)
(dSeq (dAsg (dOp vDiv (dC (.int 300)) (dCB vLenA (aCons (dOp vIxA (dVar 1) (dC (.int 0))) aNil))) (gNm 4))
(dSeq (dAsg (dOp vAdd (dC (.int 1)) (dCall F_law_draw (aCons (dVar 0) (aCons (dC (.int 9)) aNil)))) (gNm 5))
(dFor (iRng1 (aCons (dVar 4) aNil)) (gNm 6)
(dSeq (dAsg (dComp (iRng1 (aCons (dOp vIxA (dVar 3) (dC (.int 1))) aNil)) (gNm 8) dYes (dOp vMod (dCB vIntOf (aCons (dOp vMul (dVar 6) (dVar 5)) aNil)) (dC (.int 10))) [8]) (gNm 7))
(dSeq (dAsg (dOp vMul (dVar 6) (dC (.int 3))) (gSb (dVar 7) (dUn vNeg (dC (.int 1))) vSetA))
(dDrop (dBM "list" vAppend (dVar 2) (aCons (dTup (aCons (dOp vIxA (dVar 3) (dC (.int 0))) (aCons (dCB vTuple (aCons (dVar 7) aNil)) aNil))) aNil)))))))))
(dRet (dCB vTuple (aCons (dCB vSortE (aCons (dVar 2) aNil)) aNil)))))
/-! ### _law_meets -/
abbrev s_law_meets : Stmt := topS 23
abbrev N_law_meets : List Str := ["house", "store", "door", "told", "rows", "row", "c"]
theorem sc_law_meets : FnScope N_law_meets ["house", "store", "door", "told"] (defScope s_law_meets) := ⟨rfl, rfl, rfl, by decide +kernel, rfl, by decide +kernel, by decide +kernel⟩
def d_law_meets : DS :=
(dSeq (dAsg (dComp (iSeq (dVar 1)) (gNm 5) (dB (dOp vEq (dOp vIxA (dVar 5) (dC (.int 0))) (dOp vIxA (dVar 2) (dC (.int 1))))) (dOp vIxA (dVar 5) (dC (.int 1))) [5]) (gNm 4))
(dRet (dCB vSortE (aCons (dComp (iSeq (dVar 4)) (gNm 5) (dB (dOp vEq (dCB vTuple (aCons (dComp (iSeq (dOp vIxA (dVar 2) (dC (.int 2)))) (gNm 6) dYes (dOp vIxA (dVar 5) (dVar 6)) [6]) aNil)) (dVar 3))) (dVar 5) [5]) aNil))))
/-! ### _law_width -/
abbrev s_law_width : Stmt := topS 24
abbrev N_law_width : List Str := ["house", "name", "table"]
theorem sc_law_width : FnScope N_law_width ["house", "name"] (defScope s_law_width) := ⟨rfl, rfl, rfl, by decide +kernel, rfl, by decide +kernel, by decide +kernel⟩
def d_law_width : DS :=
(dSeq (dFor (iSeq (dOp vIxA (dVar 0) (dC (.int 0)))) (gNm 2)
(dIfS (dB (dOp vEq (dOp vIxA (dVar 2) (dC (.int 0))) (dVar 1)))
(dRet (dOp vIxA (dVar 2) (dC (.int 1))))
dNext))
(dRet (dC (.int 0))))
/-! ### _law_calls -/
abbrev s_law_calls : Stmt := topS 25
abbrev N_law_calls : List Str := ["source", "house", "store", "values", "door", "rows", "calls", "turn", "call", "row", "c"]
theorem sc_law_calls : FnScope N_law_calls ["source", "house", "store", "values", "door"] (defScope s_law_calls) := ⟨rfl, rfl, rfl, by decide +kernel, rfl, by decide +kernel, by decide +kernel⟩
def d_law_calls (F_law_draw : DSpec) : DS :=
(dSeq (dAsg (dComp (iSeq (dVar 2)) (gNm 9) (dB (dOp vEq (dOp vIxA (dVar 9) (dC (.int 0))) (dOp vIxA (dVar 4) (dC (.int 1))))) (dOp vIxA (dVar 9) (dC (.int 1))) [9]) (gNm 5))
(dSeq (dAsg (dLst aNil) (gNm 6))
(dSeq (dFor (iRng1 (aCons (dC (.int 3)) aNil)) (gNm 7)
(dSeq (dAsg (dCB vTuple (aCons (dComp (iSeq (dOp vIxA (dVar 4) (dC (.int 2)))) (gNm 10) dYes (dOp vIxA (dVar 3) (dCall F_law_draw (aCons (dVar 0) (aCons (dCB vLenA (aCons (dVar 3) aNil)) aNil)))) [10]) aNil)) (gNm 8))
(dSeq (dIfS (dAndT (dB (dOp vGt (dCB vLenA (aCons (dVar 5) aNil)) (dC (.int 0)))) (dB (dOp vGt (dVar 7) (dC (.int 0)))))
(dSeq (dAsg (dOp vIxA (dVar 5) (dCall F_law_draw (aCons (dVar 0) (aCons (dCB vLenA (aCons (dVar 5) aNil)) aNil)))) (gNm 9))
(dAsg (dCB vTuple (aCons (dComp (iSeq (dOp vIxA (dVar 4) (dC (.int 2)))) (gNm 10) dYes (dOp vIxA (dVar 9) (dVar 10)) [10]) aNil)) (gNm 8)))
dNext)
(dDrop (dBM "list" vAppend (dVar 6) (aCons (dVar 8) aNil))))))
(dRet (dVar 6)))))
/-! ### _law_picks -/
abbrev s_law_picks : Stmt := topS 26
abbrev N_law_picks : List Str := ["source", "house", "store", "values", "picks", "door", "call", "rows", "row", "k", "kind", "c"]
theorem sc_law_picks : FnScope N_law_picks ["source", "house", "store", "values"] (defScope s_law_picks) := ⟨rfl, rfl, rfl, by decide +kernel, rfl, by decide +kernel, by decide +kernel⟩
def d_law_picks (P : Program) (w : World) (F_law_calls : DSpec) (F_law_meets : DSpec) (F_law_width : DSpec) (F_law_draw : DSpec) : DS :=
(dSeq (dAsg (dDictN P w) (gNm 4))
(dSeq (dFor (iSeq (dOp vIxA (dVar 1) (dC (.int 2)))) (gNm 5)
(dIfS (dB (dOp vEq (dOp vIxA (dVar 5) (dC (.int 3))) (dC (.str (Str.ofString "one")))))
(dFor (iSeq (dOp vAdd (dCall F_law_calls (aCons (dVar 0) (aCons (dVar 1) (aCons (dVar 2) (aCons (dVar 3) (aCons (dVar 5) aNil)))))) (dCall F_law_calls (aCons (dVar 0) (aCons (dVar 1) (aCons (dVar 2) (aCons (dVar 3) (aCons (dVar 5) aNil)))))))) (gNm 6)
(dSeq (dAsg (dCall F_law_meets (aCons (dVar 1) (aCons (dVar 2) (aCons (dVar 5) (aCons (dVar 6) aNil))))) (gNm 7))
(dSeq (dAsg (dComp (iRng1 (aCons (dCall F_law_width (aCons (dVar 1) (aCons (dOp vIxA (dVar 5) (dC (.int 1))) aNil))) aNil)) (gNm 11) dYes (dOp vIxA (dVar 3) (dCall F_law_draw (aCons (dVar 0) (aCons (dCB vLenA (aCons (dVar 3) aNil)) aNil)))) [11]) (gNm 8))
(dSeq (dFor (iRng1 (aCons (dCB vLenA (aCons (dVar 6) aNil)) aNil)) (gNm 9)
(dAsg (dOp vIxA (dVar 6) (dVar 9)) (gSb (dVar 8) (dOp vIxA (dOp vIxA (dVar 5) (dC (.int 2))) (dVar 9)) vSetA)))
(dSeq (dAsg (dCall F_law_draw (aCons (dVar 0) (aCons (dC (.int 4)) aNil))) (gNm 10))
(dSeq (dIfS (dAndT (dB (dOp vGt (dVar 10) (dC (.int 0)))) (dB (dOp vGt (dCB vLenA (aCons (dVar 7) aNil)) (dC (.int 0)))))
(dAsg (dIf (dB (dOp vEq (dVar 10) (dC (.int 1)))) (dOp vIxA (dVar 7) (dUn vNeg (dC (.int 1)))) (dOp vIxA (dVar 7) (dCall F_law_draw (aCons (dVar 0) (aCons (dCB vLenA (aCons (dVar 7) aNil)) aNil))))) (gNm 8))
dNext)
(dIfS (dB (dOp vLt (dVar 10) (dC (.int 3))))
(dAsg (dCB vTuple (aCons (dVar 8) aNil)) (gSb (dVar 4) (dTup (aCons (dOp vIxA (dVar 5) (dC (.int 0))) (aCons (dVar 6) aNil))) (vSetN2 P w)))
dNext)))))))
dNext))
(dRet (dCB vTuple (aCons (dCB vSortE (aCons (dComp (iLockN P w (·.1) (dVar 4)) (gNm 6) dYes (dTup (aCons (dOp vIxA (dVar 6) (dC (.int 0))) (aCons (dOp vIxA (dVar 6) (dC (.int 1))) (aCons (dOp (vIxN P w) (dVar 4) (dVar 6)) aNil)))) [6]) aNil)) aNil)))))
/-! ### _law_due -/
abbrev s_law_due : Stmt := topS 27
abbrev N_law_due : List Str := ["house", "store", "picks", "door", "call", "rows", "triple"]
theorem sc_law_due : FnScope N_law_due ["house", "store", "picks", "door", "call"] (defScope s_law_due) := ⟨rfl, rfl, rfl, by decide +kernel, rfl, by decide +kernel, by decide +kernel⟩
def d_law_due (F_law_meets : DSpec) : DS :=
(dSeq (dAsg (dCall F_law_meets (aCons (dVar 0) (aCons (dVar 1) (aCons (dVar 3) (aCons (dVar 4) aNil))))) (gNm 5))
(dSeq (dIfS (dOrT (dB (dOp vEq (dOp vIxA (dVar 3) (dC (.int 3))) (dC (.str (Str.ofString "all"))))) (dB (dOp vEq (dCB vLenA (aCons (dVar 5) aNil)) (dC (.int 0)))))
(dRet (dVar 5))
dNext)
(dSeq (dFor (iSeq (dVar 2)) (gNm 6)
(dIfS (dAndT (dB (dOp vEq (dOp vIxA (dVar 6) (dC (.int 0))) (dOp vIxA (dVar 3) (dC (.int 0))))) (dAndT (dB (dOp vEq (dOp vIxA (dVar 6) (dC (.int 1))) (dVar 4))) (dB (dOp (vInP false) (dOp vIxA (dVar 6) (dC (.int 2))) (dVar 5)))))
(dRet (dLst (aCons (dOp vIxA (dVar 6) (dC (.int 2))) aNil)))
dNext))
(dRet (dSl vSl (dVar 5) oNone (oSome (dC (.int 1))))))))
/-! ### _law_alike -/
abbrev s_law_alike : Stmt := topS 28
abbrev N_law_alike : List Str := ["told", "due"]
theorem sc_law_alike : FnScope N_law_alike ["told", "due"] (defScope s_law_alike) := ⟨rfl, rfl, rfl, by decide +kernel, rfl, by decide +kernel, by decide +kernel⟩
def d_law_alike : DS :=
(dSeq (dIfS (dTru (dCB vIsi (aCons (dVar 1) (aCons (dC (.raw (.ty "str"))) aNil))))
(dRet (dAndV (dCB vIsi (aCons (dVar 0) (aCons (dC (.raw (.ty "str"))) aNil))) (dOp vEq (dVar 0) (dVar 1))))
dNext)
(dSeq (dIfS (dTru (dCB vIsi (aCons (dVar 1) (aCons (dC (.raw (.ty "int"))) aNil))))
(dRet (dAndV (dCB vIsi (aCons (dVar 0) (aCons (dC (.raw (.ty "int"))) aNil))) (dAndV (dNotU (dCB vIsi (aCons (dVar 0) (aCons (dC (.raw (.ty "bool"))) aNil)))) (dOp vEq (dVar 0) (dVar 1)))))
dNext)
(dRet (dAndV (dCB vIsi (aCons (dVar 0) (aCons (dC (.raw (.ty "tuple"))) aNil))) (dOp vEq (dCB vLenA (aCons (dVar 0) aNil)) (dCB vLenA (aCons (dVar 1) aNil)))))))
/-! ### _law_same -/
abbrev s_law_same : Stmt := topS 29
abbrev N_law_same : List Str := ["told", "due", "todo", "turn", "pair", "k"]
theorem sc_law_same : FnScope N_law_same ["told", "due"] (defScope s_law_same) := ⟨rfl, rfl, rfl, by decide +kernel, rfl, by decide +kernel, by decide +kernel⟩
def d_law_same (F_law_alike : DSpec) : DS :=
(dSeq (dAsg (dLst (aCons (dTup (aCons (dVar 0) (aCons (dVar 1) aNil))) aNil)) (gNm 2))
(dSeq (dFor (iRng1 (aCons (dC (.int 40000)) aNil)) (gNm 3)
(dSeq (dIfS (dB (dOp vEq (dCB vLenA (aCons (dVar 2) aNil)) (dC (.int 0))))
(dRet (dC (.bl true)))
dNext)
(dSeq (dAsg (dBM0 "list" vPop0 (dVar 2)) (gNm 4))
(dSeq (dIfS (dNotT (dTru (dCall F_law_alike (aCons (dOp vIxA (dVar 4) (dC (.int 0))) (aCons (dOp vIxA (dVar 4) (dC (.int 1))) aNil)))))
(dRet (dC (.bl false)))
dNext)
(dIfS (dAndT (dNotT (dTru (dCB vIsi (aCons (dOp vIxA (dVar 4) (dC (.int 1))) (aCons (dC (.raw (.ty "str"))) aNil))))) (dNotT (dTru (dCB vIsi (aCons (dOp vIxA (dVar 4) (dC (.int 1))) (aCons (dC (.raw (.ty "int"))) aNil))))))
(dFor (iRng1 (aCons (dCB vLenA (aCons (dOp vIxA (dVar 4) (dC (.int 1))) aNil)) aNil)) (gNm 5)
(dDrop (dBM "list" vAppend (dVar 2) (aCons (dTup (aCons (dOp vIxA (dOp vIxA (dVar 4) (dC (.int 0))) (dVar 5)) (aCons (dOp vIxA (dOp vIxA (dVar 4) (dC (.int 1))) (dVar 5)) aNil))) aNil))))
dNext)))))
(dRet (dC (.bl false)))))
/-! ### _law_by -/
abbrev s_law_by : Stmt := topS 30
abbrev N_law_by : List Str := ["house", "store", "number", "out", "door", "groups", "row", "call", "rows", "c", "one"]
theorem sc_law_by : FnScope N_law_by ["house", "store", "number"] (defScope s_law_by) := ⟨rfl, rfl, rfl, by decide +kernel, rfl, by decide +kernel, by decide +kernel⟩
def d_law_by (P : Program) (w : World) : DS :=
(dSeq (dAsg (dLst aNil) (gNm 3))
(dSeq (dFor (iSeq (dOp vIxA (dVar 0) (dC (.int 2)))) (gNm 4)
(dIfS (dB (dOp vEq (dOp vIxA (dVar 4) (dC (.int 3))) (dC (.str (Str.ofString "one")))))
(dSeq (dAsg (dDictN P w) (gNm 5))
(dSeq (dFor (iSeq (dVar 1)) (gNm 6)
(dSeq (dAsg (dIf (dB (dOp vEq (dOp vIxA (dVar 6) (dC (.int 0))) (dOp vIxA (dVar 4) (dC (.int 1))))) (dCB vTuple (aCons (dComp (iSeq (dOp vIxA (dVar 4) (dC (.int 2)))) (gNm 9) dYes (dOp vIxA (dOp vIxA (dVar 6) (dC (.int 1))) (dVar 9)) [9]) aNil)) (dC .non)) (gNm 7))
(dSeq (dIfS (dAndT (dB (dOp (vIs true) (dVar 7) (dC .non))) (dB (dOp (vInN P w true) (dVar 7) (dVar 5))))
(dAsg (dLst aNil) (gSb (dVar 5) (dVar 7) (vSetN2 P w)))
dNext)
(dIfS (dB (dOp (vIs true) (dVar 7) (dC .non)))
(dSeq (dAsg (dOp (vIxN P w) (dVar 5) (dVar 7)) (gNm 8))
(dDrop (dBM "list" vAppend (dVar 8) (aCons (dOp vIxA (dVar 6) (dC (.int 1))) aNil))))
dNext))))
(dFor (iSeq (dCB vSortE (aCons (dComp (iLockN P w (·.1) (dVar 5)) (gNm 10) dYes (dVar 10) [10]) aNil))) (gNm 7)
(dSeq (dAsg (dCB vSortE (aCons (dOp (vIxN P w) (dVar 5) (dVar 7)) aNil)) (gNm 8))
(dDrop (dBM "list" vAppend (dVar 3) (aCons (dTup (aCons (dOp vIxA (dVar 4) (dC (.int 0))) (aCons (dVar 7) (aCons (dOp vIxA (dVar 8) (dOp vMod (dCB vIntOf (aCons (dVar 2) aNil)) (dCB vLenA (aCons (dVar 8) aNil)))) aNil)))) aNil)))))))
dNext))
(dRet (dVar 3))))
/-! ### _law_asked -/
abbrev s_law_asked : Stmt := topS 31
abbrev N_law_asked : List Str := ["source", "names", "values", "wide", "house", "store", "other", "asked", "door", "turn", "picks", "call", "due", "number", "one"]
theorem sc_law_asked : FnScope N_law_asked ["source", "names", "values", "wide"] (defScope s_law_asked) := ⟨rfl, rfl, rfl, by decide +kernel, rfl, by decide +kernel, by decide +kernel⟩
def d_law_asked (F_law_house : DSpec) (F_law_wide : DSpec) (F_law_store : DSpec) (F_law_draw : DSpec) (F_law_picks : DSpec) (F_law_calls : DSpec) (F_law_due : DSpec) (F_law_same : DSpec) (F_shows : DSpec) (F_law_by : DSpec) (F_picks_by : DSpec) : DS :=
(dSeq (dAsg (dCall F_law_house (aCons (dVar 0) (aCons (dVar 1) (aCons (dVar 2) aNil)))) (gNm 4))
(dSeq (dAsg (dIf (dTru (dVar 3)) (dCall F_law_wide (aCons (dVar 0) (aCons (dVar 4) aNil))) (dCall F_law_store (aCons (dVar 0) (aCons (dVar 4) (aCons (dVar 2) (aCons (dCall F_law_draw (aCons (dVar 0) (aCons (dC (.int 10)) aNil))) aNil)))))) (gNm 5))
(dSeq (dAsg (dCall F_law_store (aCons (dVar 0) (aCons (dVar 4) (aCons (dVar 2) (aCons (dOp vAdd (dC (.int 1)) (dCall F_law_draw (aCons (dVar 0) (aCons (dC (.int 9)) aNil)))) aNil))))) (gNm 6))
(dSeq (dAsg (dC (.int 0)) (gNm 7))
(dSeq (dFor (iSeq (dOp vIxA (dVar 4) (dC (.int 2)))) (gNm 8)
(dFor (iRng1 (aCons (dC (.int 2)) aNil)) (gNm 9)
(dSeq (dAsg (dCall F_law_picks (aCons (dVar 0) (aCons (dVar 4) (aCons (dVar 5) (aCons (dVar 2) aNil))))) (gNm 10))
(dFor (iSeq (dCall F_law_calls (aCons (dVar 0) (aCons (dVar 4) (aCons (dVar 5) (aCons (dVar 2) (aCons (dVar 8) aNil))))))) (gNm 11)
(dSeq (dAsg (dCall F_law_due (aCons (dVar 4) (aCons (dVar 5) (aCons (dVar 10) (aCons (dVar 8) (aCons (dVar 11) aNil)))))) (gNm 12))
(dSeq (dIfS (dNotT (dTru (dCall F_law_same (aCons (dCall F_shows (aCons (dVar 4) (aCons (dVar 5) (aCons (dVar 10) (aCons (dOp vIxA (dVar 8) (dC (.int 0))) (aCons (dVar 11) aNil)))))) (aCons (dVar 12) aNil)))))
(dRet (dC (.bl false)))
dNext)
(dSeq (dIfS (dNotT (dTru (dCall F_law_same (aCons (dCall F_shows (aCons (dVar 4) (aCons (dVar 6) (aCons (dVar 10) (aCons (dOp vIxA (dVar 8) (dC (.int 0))) (aCons (dVar 11) aNil)))))) (aCons (dCall F_law_due (aCons (dVar 4) (aCons (dVar 6) (aCons (dVar 10) (aCons (dVar 8) (aCons (dVar 11) aNil)))))) aNil)))))
(dRet (dC (.bl false)))
dNext)
(dSeq (dIfS (dNotT (dTru (dCall F_law_same (aCons (dCall F_shows (aCons (dVar 4) (aCons (dVar 5) (aCons (dVar 10) (aCons (dOp vIxA (dVar 8) (dC (.int 0))) (aCons (dVar 11) aNil)))))) (aCons (dVar 12) aNil)))))
(dRet (dC (.bl false)))
dNext)
(dAsg (dOp vAdd (dVar 7) (dC (.int 1))) (gNm 7))))))))))
(dSeq (dFor (iSeq (dTup (aCons (dCall F_law_draw (aCons (dVar 0) (aCons (dC (.int 4)) aNil))) (aCons (dOp vMul (dCall F_law_draw (aCons (dVar 0) (aCons (dOp vPow (dC (.int 10)) (dC (.int 6))) aNil))) (dOp vPow (dC (.int 10)) (dC (.int 6)))) (aCons (dC (.int 0)) aNil))))) (gNm 13)
(dFor (iSeq (dTup (aCons (dVar 5) (aCons (dVar 6) aNil)))) (gNm 14)
(dIfS (dNotT (dTru (dCall F_law_same (aCons (dCall F_picks_by (aCons (dVar 4) (aCons (dVar 14) (aCons (dVar 13) aNil)))) (aCons (dCall F_law_by (aCons (dVar 4) (aCons (dVar 14) (aCons (dVar 13) aNil)))) aNil)))))
(dRet (dC (.bl false)))
dNext)))
(dRet (dOp vGe (dVar 7) (dC (.int 6))))))))))
/-! ### law -/
abbrev s_law : Stmt := topS 32
abbrev N_law : List Str := ["script", "source", "names", "wide", "turn"]
theorem sc_law : FnScope N_law ["script"] (defScope s_law) := ⟨rfl, rfl, rfl, by decide +kernel, rfl, by decide +kernel, by decide +kernel⟩
def d_law (F_law_source : DSpec) (F_law_mix : DSpec) (F_law_pool : DSpec) (F_law_draw : DSpec) (F_law_asked : DSpec) (F_law_pool_values : DSpec) : DS :=
(dSeq (dAsg (dCall F_law_source (aCons (dVar 0) aNil)) (gNm 1))
(dSeq (dAsg (dCall F_law_mix (aCons (dVar 1) (aCons (dCall F_law_pool (aCons (dVar 1) (aCons (dC (.int 12)) aNil))) aNil))) (gNm 2))
(dSeq (dAsg (dOp vEq (dCall F_law_draw (aCons (dVar 1) (aCons (dC (.int 13)) aNil))) (dC (.int 5))) (gNm 3))
(dSeq (dFor (iRng1 (aCons (dIf (dTru (dVar 3)) (dC (.int 1)) (dC (.int 3))) aNil)) (gNm 4)
(dIfS (dNotT (dTru (dCall F_law_asked (aCons (dVar 1) (aCons (dVar 2) (aCons (dCall F_law_pool_values (aCons (dVar 1) aNil)) (aCons (dVar 3) aNil)))))))
(dRet (dC (.bl false)))
dNext))
(dRet (dC (.bl true)))))))
section
variable {P : Program} {w : World} {K : Fg} {mg : Str → Option Value} {base : Heap}
theorem der_door_of (T : Txt mg) (f : Addr) (cdv : Value) (A : Around) (outer : List PySem.Env) (s : Shared) (H : Hp) (E : XK) (hr : Room 0 (A.deeper (envOfC "door_of" (defScope s_door_of) s.heap.objs.size f cdv))) :
  XSs (cxOf CX0 P w K mg base N_door_of "door_of" (defScope s_door_of) f cdv A outer s H E).nox (defBody s_door_of) (d_door_of) :=
(xss_cons (xs_for PassesOwn.never rfl (xi_seq (x_ixA hr.units (xv 0) xe_int)) (xg_name 2 sc_door_of.nd)
(xss_one (xs_if (t_eq hr.units (x_ixA hr.units (xv 2) xe_int) (xv 1))
(xss_one (xs_ret (xv 2)))
xss_nil)))
(xss_one xs_never))
theorem der_told_of (T : Txt mg) (f : Addr) (cdv : Value) (A : Around) (outer : List PySem.Env) (s : Shared) (H : Hp) (E : XK) (hr : Room 0 (A.deeper (envOfC "told_of" (defScope s_told_of) s.heap.objs.size f cdv))) :
  XSs (cxOf CX0 P w K mg base N_told_of "told_of" (defScope s_told_of) f cdv A outer s H E).nox (defBody s_told_of) (d_told_of) :=
(xss_one (xs_ret (c_tuple (by rfl) T.z_tuple (xa_cons (xe_comp [("column", 2)] rfl sc_told_of.nd (xi_seq (x_ixA hr.units (xv 0) xe_int)) (blkOk_by (by kernel_rfl)) (fun _ _ _ _ _ => (xcg_name 2 sc_told_of.nd)) (fun _ _ _ _ _ => xts_nil) (fun _ _ _ _ _ => (x_ixA hr.units (xv 1) (xv 2)))) xa_nil))))
theorem der_rows_of (T : Txt mg) (f : Addr) (cdv : Value) (A : Around) (outer : List PySem.Env) (s : Shared) (H : Hp) (E : XK) (hr : Room 0 (A.deeper (envOfC "rows_of" (defScope s_rows_of) s.heap.objs.size f cdv))) :
  XSs (cxOf CX0 P w K mg base N_rows_of "rows_of" (defScope s_rows_of) f cdv A outer s H E).nox (defBody s_rows_of) (d_rows_of) :=
(xss_one (xs_ret (c_tuple (by rfl) T.z_tuple (xa_cons (xe_comp [("row", 2)] rfl sc_rows_of.nd (xi_seq (xv 0)) (blkOk_by (by kernel_rfl)) (fun _ _ _ _ _ => (xcg_name 2 sc_rows_of.nd)) (fun _ _ _ _ _ => (xts_one (t_eq hr.units (x_ixA hr.units (xv 2) xe_int) (xv 1)))) (fun _ _ _ _ _ => (x_ixA hr.units (xv 2) xe_int))) xa_nil))))
theorem der_matched_by (T : Txt mg) {F_rows_of : DSpec} {F_told_of : DSpec} (D_rows_of : TDef P w K mg base 1 "rows_of" s_rows_of ["store", "table"] F_rows_of) (D_told_of : TDef P w K mg base 1 "told_of" s_told_of ["door", "values"] F_told_of) (f : Addr) (cdv : Value) (A : Around) (outer : List PySem.Env) (s : Shared) (H : Hp) (E : XK) (hr : Room 1 (A.deeper (envOfC "matched_by" (defScope s_matched_by) s.heap.objs.size f cdv))) :
  XSs (cxOf CX0 P w K mg base N_matched_by "matched_by" (defScope s_matched_by) f cdv A outer s H E).nox (defBody s_matched_by) (d_matched_by P w F_rows_of F_told_of) :=
(xss_cons (xs_set 2 sc_matched_by.nd xe_dictN)
(xss_cons (xs_for PassesOwn.never rfl (xi_seq (c_def D_rows_of hr (xa_cons (xv 0) (xa_cons (x_ixA hr.units (xv 1) xe_int) xa_nil)))) (xg_name 3 sc_matched_by.nd)
(xss_one (xs_expr (m_append (m_nsd hr.units (xv 2) (c_def D_told_of hr (xa_cons (xv 1) (xa_cons (xv 3) xa_nil))) (xe_lst xa_nil) ⟨rfl, rfl, rfl, rfl⟩) (xa_cons (xv 3) xa_nil)))))
(xss_one (xs_ret (xv 2)))))
theorem der_shown_by (T : Txt mg) {F_door_of : DSpec} {F_matched_by : DSpec} {F_picked_row : DSpec} (D_door_of : TDef P w K mg base 1 "door_of" s_door_of ["house", "name"] F_door_of) (D_matched_by : TDef P w K mg base 2 "matched_by" s_matched_by ["store", "door"] F_matched_by) (D_picked_row : TDef P w K mg base 1 "picked_row" s_picked_row ["rows", "row"] F_picked_row) (f : Addr) (cdv : Value) (A : Around) (outer : List PySem.Env) (s : Shared) (H : Hp) (E : XK) (hr : Room 2 (A.deeper (envOfC "shown_by" (defScope s_shown_by) s.heap.objs.size f cdv))) :
  XSs (cxOf CX0 P w K mg base N_shown_by "shown_by" (defScope s_shown_by) f cdv A outer s H E).nox (defBody s_shown_by) (d_shown_by P w F_door_of F_matched_by F_picked_row) :=
(xss_cons (xs_set 4 sc_shown_by.nd (c_def D_door_of hr (xa_cons (xv 0) (xa_cons (xv 3) xa_nil))))
(xss_cons (xs_set 5 sc_shown_by.nd (c_def D_matched_by hr (xa_cons (xv 1) (xa_cons (xv 4) xa_nil))))
(xss_cons (xs_if (t_eq hr.units (x_ixA hr.units (xv 4) xe_int) xe_str)
(xss_one (xs_ret (xv 5)))
xss_nil)
(xss_cons (xs_set 6 sc_shown_by.nd (xe_dictCNT hr.units [("one", 7), ("told", 8), ("row", 9)] rfl sc_shown_by.nd (xi_seq (xv 2)) (blkOk_by (by kernel_rfl)) (fun _ _ _ _ _ => (xcgs_cons (xcg_name 7 sc_shown_by.nd) (xcgs_cons (xcg_name 8 sc_shown_by.nd) (xcgs_cons (xcg_name 9 sc_shown_by.nd) xcgs_nil)))) (fun _ _ _ _ _ => (xts_one (t_eq hr.units (xv 7) (xv 3)))) (fun _ _ _ _ _ => (xv 8)) (fun _ _ _ _ _ => (xv 9))))
(xss_one (xs_ret (xe_dictCNT hr.units [("told", 8), ("rows", 10)] rfl sc_shown_by.nd (xi_itemsN (xv 5)) (blkOk_by (by kernel_rfl)) (fun _ _ _ _ _ => (xcgs_cons (xcg_name 8 sc_shown_by.nd) (xcgs_cons (xcg_name 10 sc_shown_by.nd) xcgs_nil))) (fun _ _ _ _ _ => xts_nil) (fun _ _ _ _ _ => (xv 8)) (fun _ _ _ _ _ => (xe_lst (xa_cons (c_def D_picked_row hr (xa_cons (xv 10) (xa_cons (m_nget1 hr.units (xv 6) (xv 8) ⟨rfl, rfl, rfl, rfl⟩) xa_nil))) xa_nil))))))))))
theorem der_picked_row (T : Txt mg) (f : Addr) (cdv : Value) (A : Around) (outer : List PySem.Env) (s : Shared) (H : Hp) (E : XK) (hr : Room 0 (A.deeper (envOfC "picked_row" (defScope s_picked_row) s.heap.objs.size f cdv))) :
  XSs (cxOf CX0 P w K mg base N_picked_row "picked_row" (defScope s_picked_row) f cdv A outer s H E).nox (defBody s_picked_row) (d_picked_row) :=
(xss_one (xs_ret (xe_if (t_inP hr (xv 1) (xv 0)) (xv 1) (x_ixA hr.units (xv 0) xe_int))))
theorem der_shows (T : Txt mg) {F_shown_by : DSpec} (D_shown_by : TDef P w K mg base 3 "shown_by" s_shown_by ["house", "store", "picks", "name"] F_shown_by) (f : Addr) (cdv : Value) (A : Around) (outer : List PySem.Env) (s : Shared) (H : Hp) (E : XK) (hr : Room 3 (A.deeper (envOfC "shows" (defScope s_shows) s.heap.objs.size f cdv))) :
  XSs (cxOf CX0 P w K mg base N_shows "shows" (defScope s_shows) f cdv A outer s H E).nox (defBody s_shows) (d_shows P w F_shown_by) :=
(xss_one (xs_ret (c_tuple (by rfl) T.z_tuple (xa_cons (m_nget2 hr.units (c_def D_shown_by hr (xa_cons (xv 0) (xa_cons (xv 1) (xa_cons (xv 2) (xa_cons (xv 3) xa_nil))))) (xv 4) (xe_lst xa_nil) ⟨rfl, rfl, rfl, rfl⟩) xa_nil))))
theorem der_picks_by (T : Txt mg) {F_matched_by : DSpec} (D_matched_by : TDef P w K mg base 2 "matched_by" s_matched_by ["store", "door"] F_matched_by) (f : Addr) (cdv : Value) (A : Around) (outer : List PySem.Env) (s : Shared) (H : Hp) (E : XK) (hr : Room 2 (A.deeper (envOfC "picks_by" (defScope s_picks_by) s.heap.objs.size f cdv))) :
  XSs (cxOf CX0 P w K mg base N_picks_by "picks_by" (defScope s_picks_by) f cdv A outer s H E).nox (defBody s_picks_by) (d_picks_by P w F_matched_by) :=
(xss_cons (xs_set 3 sc_picks_by.nd (xe_lst xa_nil))
(xss_cons (xs_for PassesOwn.never rfl (xi_seq (x_ixA hr.units (xv 0) xe_int)) (xg_name 4 sc_picks_by.nd)
(xss_one (xs_if (t_eq hr.units (x_ixA hr.units (xv 4) xe_int) xe_str)
(xss_one (xs_for PassesOwn.never rfl (xi_itemsN (c_def D_matched_by hr (xa_cons (xv 1) (xa_cons (xv 4) xa_nil)))) (xg_tup rfl (xgs_cons (xg_name 5 sc_picks_by.nd) (xgs_cons (xg_name 6 sc_picks_by.nd) xgs_nil)))
(xss_one (xs_expr (m_append (xv 3) (xa_cons (xe_tup (xa_cons (x_ixA hr.units (xv 4) xe_int) (xa_cons (xv 5) (xa_cons (x_ixA hr.units (xv 6) (x_mod (xv 2) (c_lenA (by rfl) T.z_len (xa_cons (xv 6) xa_nil)))) xa_nil)))) xa_nil))))))
xss_nil)))
(xss_one (xs_ret (c_tuple (by rfl) T.z_tuple (xa_cons (c_sortE hr.units (by rfl) T.z_sorted (xa_cons (xv 3) xa_nil)) xa_nil))))))
theorem der_law_source (T : Txt mg) (f : Addr) (cdv : Value) (A : Around) (outer : List PySem.Env) (s : Shared) (H : Hp) (E : XK) (hr : Room 0 (A.deeper (envOfC "_law_source" (defScope s_law_source) s.heap.objs.size f cdv))) :
  XSs (cxOf CX0 P w K mg base N_law_source "_law_source" (defScope s_law_source) f cdv A outer s H E).nox (defBody s_law_source) (d_law_source) :=
(xss_cons (xs_setComp 1 [("cell", 2)] rfl sc_law_source.nd (xi_seq (x_slice (xv 0) xo_none (xo_some xe_int))) (blkOk_by (by kernel_rfl)) (fun _ _ _ _ _ => (xcg_name 2 sc_law_source.nd)) (fun _ _ _ _ _ => xts_nil) (fun _ _ _ _ _ => (c_int (by rfl) T.z_int (xa_cons (xv 2) xa_nil))) (sw_true rfl rfl rfl (by decide +kernel)))
(xss_cons (xs_if (t_eq hr.units (c_lenA (by rfl) T.z_len (xa_cons (xv 1) xa_nil)) xe_int)
(xss_one (xs_set 1 sc_law_source.nd (xe_lst (xa_cons xe_int xa_nil))))
xss_nil)
(xss_one (xs_ret (xe_disp (xps_cons xe_str (xv 1) (xps_cons xe_str (xe_comp [("cell", 2)] rfl sc_law_source.nd (xi_seq (xv 1)) (blkOk_by (by kernel_rfl)) (fun _ _ _ _ _ => (xcg_name 2 sc_law_source.nd)) (fun _ _ _ _ _ => (xts_one (t_ge (c_abs (by rfl) T.z_abs (xa_cons (xv 2) xa_nil)) (x_pow xe_int xe_int)))) (fun _ _ _ _ _ => (c_abs (by rfl) T.z_abs (xa_cons (xv 2) xa_nil)))) (xps_cons xe_str xe_int (xps_cons xe_str xe_int xps_nil)))))))))
theorem der_law_draw (T : Txt mg) (f : Addr) (cdv : Value) (A : Around) (outer : List PySem.Env) (s : Shared) (H : Hp) (E : XK) (hr : Room 0 (A.deeper (envOfC "_law_draw" (defScope s_law_draw) s.heap.objs.size f cdv))) :
  XSs (cxOf CX0 P w K mg base N_law_draw "_law_draw" (defScope s_law_draw) f cdv A outer s H E).nox (defBody s_law_draw) (d_law_draw) :=
(xss_cons (xs_if (XW.xt (xw_and (t_eq hr.units (x_ixA hr.units (xv 0) xe_str) xe_int) (xw_and1 (t_gt (c_lenA (by rfl) T.z_len (xa_cons (x_ixA hr.units (xv 0) xe_str) xa_nil)) xe_int))))
(xss_one (xs_asg (m_pop1 (x_ixA hr.units (xv 0) xe_str) (xa_cons xe_int xa_nil)) (g_subA hr.units (xv 0) xe_str)))
xss_nil)
(xss_cons (xs_if (t_gt (x_ixA hr.units (xv 0) xe_str) xe_int)
(xss_cons (xs_set 2 sc_law_draw.nd (x_mod (c_int (by rfl) T.z_int (xa_cons (x_ixA hr.units (xv 0) xe_str) xa_nil)) (xv 1)))
(xss_cons (xs_asg (x_div (x_ixA hr.units (xv 0) xe_str) (xv 1)) (g_subA hr.units (xv 0) xe_str))
(xss_one (xs_ret (xv 2)))))
xss_nil)
(xss_cons (xs_set 3 sc_law_draw.nd (x_ixA hr.units (xv 0) xe_str))
(xss_cons (xs_asg (x_add (xv 3) xe_int) (g_subA hr.units (xv 0) xe_str))
(xss_cons (xs_set 4 sc_law_draw.nd (c_int (by rfl) T.z_int (xa_cons (x_ixA hr.units (x_ixA hr.units (xv 0) xe_str) (x_mod (c_int (by rfl) T.z_int (xa_cons (xv 3) xa_nil)) (c_lenA (by rfl) T.z_len (xa_cons (x_ixA hr.units (xv 0) xe_str) xa_nil)))) xa_nil)))
(xss_cons (xs_set 5 sc_law_draw.nd (x_add (x_add (x_mul (x_mul (x_add (x_mod (c_int (by rfl) T.z_int (xa_cons (xv 4) xa_nil)) xe_int) xe_int) (x_add (x_mod (c_int (by rfl) T.z_int (xa_cons (xv 3) xa_nil)) xe_int) xe_int)) xe_int) (x_mul (xv 3) xe_int)) (x_mul (x_mod (c_int (by rfl) T.z_int (xa_cons (xv 4) xa_nil)) xe_int) xe_int)))
(xss_cons (xs_set 6 sc_law_draw.nd (x_add (x_mul (x_mod (c_int (by rfl) T.z_int (xa_cons (xv 5) xa_nil)) xe_int) (x_add (x_mod (c_int (by rfl) T.z_int (xa_cons (xv 5) xa_nil)) xe_int) xe_int)) (x_mul (xv 3) xe_int)))
(xss_one (xs_ret (x_mod (x_div (x_mod (c_int (by rfl) T.z_int (xa_cons (xv 6) xa_nil)) xe_int) xe_int) (xv 1)))))))))))
theorem der_law_mix (T : Txt mg) {F_law_draw : DSpec} (D_law_draw : TDef P w K mg base 1 "_law_draw" s_law_draw ["source", "many"] F_law_draw) (f : Addr) (cdv : Value) (A : Around) (outer : List PySem.Env) (s : Shared) (H : Hp) (E : XK) (hr : Room 1 (A.deeper (envOfC "_law_mix" (defScope s_law_mix) s.heap.objs.size f cdv))) :
  XSs (cxOf CX0 P w K mg base N_law_mix "_law_mix" (defScope s_law_mix) f cdv A outer s H E).nox (defBody s_law_mix) (d_law_mix F_law_draw) :=
(xss_cons (xs_set 2 sc_law_mix.nd (c_listA rfl (by rfl) T.z_list (xa_cons (xv 1) xa_nil)))
(xss_cons (xs_for PassesOwn.never rfl (xi_range1 (by rfl) T.z_range (xa_cons (c_lenA (by rfl) T.z_len (xa_cons (xv 2) xa_nil)) xa_nil)) (xg_name 3 sc_law_mix.nd)
(xss_cons (xs_set 4 sc_law_mix.nd (x_add (xv 3) (c_def D_law_draw hr (xa_cons (xv 0) (xa_cons (x_sub (c_lenA (by rfl) T.z_len (xa_cons (xv 2) xa_nil)) (xv 3)) xa_nil)))))
(xss_cons (xs_set 5 sc_law_mix.nd (x_ixA hr.units (xv 2) (xv 3)))
(xss_cons (xs_asg (x_ixA hr.units (xv 2) (xv 4)) (g_subA hr.units (xv 2) (xv 3)))
(xss_one (xs_asg (xv 5) (g_subA hr.units (xv 2) (xv 4))))))))
(xss_one (xs_ret (xv 2)))))
theorem der_law_pool (T : Txt mg) {F_law_draw : DSpec} (D_law_draw : TDef P w K mg base 1 "_law_draw" s_law_draw ["source", "many"] F_law_draw) (f : Addr) (cdv : Value) (A : Around) (outer : List PySem.Env) (s : Shared) (H : Hp) (E : XK) (hr : Room 1 (A.deeper (envOfC "_law_pool" (defScope s_law_pool) s.heap.objs.size f cdv))) :
  XSs (cxOf CX0 P w K mg base N_law_pool "_law_pool" (defScope s_law_pool) f cdv A outer s H E).nox (defBody s_law_pool) (d_law_pool F_law_draw) :=
(xss_cons (xs_set 2 sc_law_pool.nd xe_str)
(xss_cons (xs_set 3 sc_law_pool.nd (xe_lst xa_nil))
(xss_cons (xs_for PassesOwn.never rfl (xi_range1 (by rfl) T.z_range (xa_cons (xv 1) xa_nil)) (xg_name 4 sc_law_pool.nd)
(xss_cons (xs_set 5 sc_law_pool.nd (x_add (x_ixA hr.units (xv 2) (c_def D_law_draw hr (xa_cons (xv 0) (xa_cons xe_int xa_nil)))) (c_str (by rfl) T.z_str (xa_cons (c_def D_law_draw hr (xa_cons (xv 0) (xa_cons xe_int xa_nil))) xa_nil))))
(xss_cons (xs_if (XW.xt (xw_and (t_gt (c_lenA (by rfl) T.z_len (xa_cons (xv 3) xa_nil)) xe_int) (xw_and1 (t_eq hr.units (c_def D_law_draw hr (xa_cons (xv 0) (xa_cons xe_int xa_nil))) xe_int))))
(xss_one (xs_set 5 sc_law_pool.nd (x_add (x_slice (x_ixA hr.units (xv 3) (c_def D_law_draw hr (xa_cons (xv 0) (xa_cons (c_lenA (by rfl) T.z_len (xa_cons (xv 3) xa_nil)) xa_nil)))) xo_none (xo_some xe_int)) (x_ixA hr.units (xv 2) (c_def D_law_draw hr (xa_cons (xv 0) (xa_cons xe_int xa_nil)))))))
xss_nil)
(xss_one (xs_expr (m_append (xv 3) (xa_cons (xe_if (t_notinA hr.units (xv 5) (xv 3)) (xv 5) (x_add xe_str (c_str (by rfl) T.z_str (xa_cons (xv 4) xa_nil)))) xa_nil)))))))
(xss_one (xs_ret (xv 3))))))
theorem der_law_pool_values (T : Txt mg) {F_law_draw : DSpec} {F_law_mix : DSpec} (D_law_draw : TDef P w K mg base 1 "_law_draw" s_law_draw ["source", "many"] F_law_draw) (D_law_mix : TDef P w K mg base 2 "_law_mix" s_law_mix ["source", "things"] F_law_mix) (f : Addr) (cdv : Value) (A : Around) (outer : List PySem.Env) (s : Shared) (H : Hp) (E : XK) (hr : Room 2 (A.deeper (envOfC "_law_pool_values" (defScope s_law_pool_values) s.heap.objs.size f cdv))) :
  XSs (cxOf CX0 P w K mg base N_law_pool_values "_law_pool_values" (defScope s_law_pool_values) f cdv A outer s H E).nox (defBody s_law_pool_values) (d_law_pool_values F_law_draw F_law_mix) :=
(xss_cons (xs_set 1 sc_law_pool_values.nd (xe_lst (xa_cons xe_int (xa_cons xe_int (xa_cons xe_int (xa_cons xe_int (xa_cons xe_int (xa_cons xe_int (xa_cons xe_int (xa_cons xe_int (xa_cons (x_pow xe_int xe_int) (xa_cons (x_sub (x_pow xe_int xe_int) xe_int) (xa_cons (c_def D_law_draw hr (xa_cons (xv 0) (xa_cons (x_pow xe_int xe_int) xa_nil))) (xa_cons (x_add (x_mul (c_def D_law_draw hr (xa_cons (xv 0) (xa_cons (x_pow xe_int xe_int) xa_nil))) (x_pow xe_int xe_int)) xe_int) xa_nil))))))))))))))
(xss_cons (xs_set 2 sc_law_pool_values.nd (xe_lst xa_nil))
(xss_cons (xs_for PassesOwn.never rfl (xi_seq (x_slice (c_def D_law_mix hr (xa_cons (xv 0) (xa_cons (xv 1) xa_nil))) xo_none (xo_some (x_add xe_int (c_def D_law_draw hr (xa_cons (xv 0) (xa_cons xe_int xa_nil))))))) (xg_name 3 sc_law_pool_values.nd)
(xss_one (xs_if (t_notinA hr.units (xv 3) (xv 2))
(xss_one (xs_expr (m_append (xv 2) (xa_cons (xv 3) xa_nil))))
xss_nil)))
(xss_one (xs_ret (xv 2))))))
theorem der_law_house (T : Txt mg) {F_law_draw : DSpec} {F_law_mix : DSpec} (D_law_draw : TDef P w K mg base 1 "_law_draw" s_law_draw ["source", "many"] F_law_draw) (D_law_mix : TDef P w K mg base 2 "_law_mix" s_law_mix ["source", "things"] F_law_mix) (f : Addr) (cdv : Value) (A : Around) (outer : List PySem.Env) (s : Shared) (H : Hp) (E : XK) (hr : Room 2 (A.deeper (envOfC "_law_house" (defScope s_law_house) s.heap.objs.size f cdv))) :
  XSs (cxOf CX0 P w K mg base N_law_house "_law_house" (defScope s_law_house) f cdv A outer s H E).nox (defBody s_law_house) (d_law_house F_law_draw F_law_mix) :=
(xss_cons (xs_set 3 sc_law_house.nd (x_add xe_int (c_def D_law_draw hr (xa_cons (xv 0) (xa_cons xe_int xa_nil)))))
(xss_cons (xs_setComp 4 [("k", 17)] rfl sc_law_house.nd (xi_range1 (by rfl) T.z_range (xa_cons (x_add xe_int (c_def D_law_draw hr (xa_cons (xv 0) (xa_cons xe_int xa_nil)))) xa_nil)) (blkOk_by (by kernel_rfl)) (fun _ _ _ _ _ => (xcg_name 17 sc_law_house.nd)) (fun _ _ _ _ _ => xts_nil) (fun _ _ _ _ _ => (xe_tup (xa_cons (x_ixA hr.units (xv 1) (xv 17)) (xa_cons (xe_if (t_eq hr.units (c_def D_law_draw hr (xa_cons (xv 0) (xa_cons xe_int xa_nil))) xe_int) (xv 3) (x_add xe_int (c_def D_law_draw hr (xa_cons (xv 0) (xa_cons xe_int xa_nil))))) xa_nil)))) (sw_true rfl rfl rfl (by decide +kernel)))
(xss_cons (xs_set 5 sc_law_house.nd (c_def D_law_mix hr (xa_cons (xv 0) (xa_cons (xv 1) xa_nil))))
(xss_cons (xs_setComp 6 [("c", 18)] rfl sc_law_house.nd (xi_range1 (by rfl) T.z_range (xa_cons (xv 3) xa_nil)) (blkOk_by (by kernel_rfl)) (fun _ _ _ _ _ => (xcg_name 18 sc_law_house.nd)) (fun _ _ _ _ _ => (xts_one (t_eq hr.units (c_def D_law_draw hr (xa_cons (xv 0) (xa_cons xe_int xa_nil))) xe_int))) (fun _ _ _ _ _ => (xv 18)) (sw_true rfl rfl rfl (by decide +kernel)))
(xss_cons (xs_set 7 sc_law_house.nd (xe_lst xa_nil))
(xss_cons (xs_for PassesOwn.never rfl (xi_seq (xv 4)) (xg_name 8 sc_law_house.nd)
(xss_cons (xs_set 9 sc_law_house.nd (c_def D_law_draw hr (xa_cons (xv 0) (xa_cons xe_int xa_nil))))
(xss_one (xs_for PassesOwn.never rfl (xi_range1 (by rfl) T.z_range (xa_cons (c_def D_law_draw hr (xa_cons (xv 0) (xa_cons xe_int xa_nil))) xa_nil)) (xg_name 10 sc_law_house.nd)
(xss_cons (xs_set 11 sc_law_house.nd (c_def D_law_draw hr (xa_cons (xv 0) (xa_cons xe_int xa_nil))))
(xss_cons (xs_setComp 12 [("c", 18)] rfl sc_law_house.nd (xi_range1 (by rfl) T.z_range (xa_cons (x_ixA hr.units (xv 8) xe_int) xa_nil)) (blkOk_by (by kernel_rfl)) (fun _ _ _ _ _ => (xcg_name 18 sc_law_house.nd)) (fun _ _ _ _ _ => (xts_one (XW.xt (xw_or (t_eq hr.units (xv 11) xe_int) (xw_or (XW.xt (xw_and (t_eq hr.units (xv 11) xe_int) (xw_and1 (t_eq hr.units (xv 18) xe_int)))) (xw_or1 (XW.xt (xw_and (t_eq hr.units (xv 11) xe_int) (xw_and1 (t_eq hr.units (c_def D_law_draw hr (xa_cons (xv 0) (xa_cons xe_int xa_nil))) xe_int)))))))))) (fun _ _ _ _ _ => (xv 18)) (sw_true rfl rfl rfl (by decide +kernel)))
(xss_cons (xs_if (XW.xt (xw_and (t_eq hr.units (x_ixA hr.units (xv 8) xe_int) (xv 3)) (xw_and1 (t_eq hr.units (c_def D_law_draw hr (xa_cons (xv 0) (xa_cons xe_int xa_nil))) xe_int))))
(xss_one (xs_set 12 sc_law_house.nd (xv 6)))
xss_nil)
(xss_one (xs_if (t_lt (c_lenA (by rfl) T.z_len (xa_cons (xv 7) xa_nil)) xe_int)
(xss_one (xs_expr (m_append (xv 7) (xa_cons (xe_tup (xa_cons (x_ixA hr.units (xv 5) (c_lenA (by rfl) T.z_len (xa_cons (xv 7) xa_nil))) (xa_cons (x_ixA hr.units (xv 8) xe_int) (xa_cons (c_tuple (by rfl) T.z_tuple (xa_cons (xv 12) xa_nil)) (xa_cons (xe_if (t_eq hr.units (xv 10) (xv 9)) xe_str xe_str) xa_nil))))) xa_nil))))
xss_nil)))))))))
(xss_cons (xs_if (t_eq hr.units (c_lenA (by rfl) T.z_len (xa_cons (xv 7) xa_nil)) xe_int)
(xss_one (xs_set 7 sc_law_house.nd (xe_lst (xa_cons (xe_tup (xa_cons (x_ixA hr.units (xv 5) xe_int) (xa_cons (x_ixA hr.units (x_ixA hr.units (xv 4) xe_int) xe_int) (xa_cons (xe_tup xa_nil) (xa_cons xe_str xa_nil))))) xa_nil))))
xss_nil)
(xss_cons (xs_setComp 13 [("table", 8)] rfl sc_law_house.nd (xi_seq (xv 4)) (blkOk_by (by kernel_rfl)) (fun _ _ _ _ _ => (xcg_name 8 sc_law_house.nd)) (fun _ _ _ _ _ => (xts_one (XW.xt (xw_and (t_gt (x_ixA hr.units (xv 8) xe_int) xe_int) (xw_and1 (t_eq hr.units (c_def D_law_draw hr (xa_cons (xv 0) (xa_cons xe_int xa_nil))) xe_int)))))) (fun _ _ _ _ _ => (xe_tup (xa_cons (x_ixA hr.units (xv 8) xe_int) (xa_cons (xe_tup (xa_cons xe_int xa_nil)) (xa_cons xe_int xa_nil))))) (sw_true rfl rfl rfl (by decide +kernel)))
(xss_cons (xs_set 14 sc_law_house.nd (xe_lst xa_nil))
(xss_cons (xs_if (XW.xt (xw_and (t_gt (c_lenA (by rfl) T.z_len (xa_cons (xv 4) xa_nil)) xe_int) (xw_and1 (t_eq hr.units (c_def D_law_draw hr (xa_cons (xv 0) (xa_cons xe_int xa_nil))) xe_int))))
(xss_cons (xs_set 15 sc_law_house.nd (xe_tup (xa_cons (x_ixA hr.units (x_ixA hr.units (xv 4) xe_int) xe_int) (xa_cons (c_tuple (by rfl) T.z_tuple (xa_cons (x_slice (xv 1) xo_none (xo_some (x_ixA hr.units (x_ixA hr.units (xv 4) xe_int) xe_int))) xa_nil)) xa_nil))))
(xss_one (xs_set 14 sc_law_house.nd (xe_lst (xa_cons (xe_tup (xa_cons (xe_tup (xa_cons (xv 15) xa_nil)) (xa_cons (xe_tup (xa_cons (x_ixA hr.units (x_ixA hr.units (xv 4) xe_int) xe_int) (xa_cons (c_tuple (by rfl) T.z_tuple (xa_cons (xe_comp [("c", 18)] rfl sc_law_house.nd (xi_range1 (by rfl) T.z_range (xa_cons (x_ixA hr.units (x_ixA hr.units (xv 4) xe_int) xe_int) xa_nil)) (blkOk_by (by kernel_rfl)) (fun _ _ _ _ _ => (xcg_name 18 sc_law_house.nd)) (fun _ _ _ _ _ => xts_nil) (fun _ _ _ _ _ => (x_ixA hr.units (xv 1) xe_int))) xa_nil)) xa_nil))) xa_nil))) xa_nil)))))
xss_nil)
(xss_cons (xs_set 16 sc_law_house.nd (c_tuple (by rfl) T.z_tuple (xa_cons (c_sortE hr.units (by rfl) T.z_sorted (xa_cons (x_slice (xv 2) xo_none (xo_some (c_def D_law_draw hr (xa_cons (xv 0) (xa_cons xe_int xa_nil))))) xa_nil)) xa_nil)))
(xss_one (xs_ret (xe_tup (xa_cons (c_tuple (by rfl) T.z_tuple (xa_cons (xv 4) xa_nil)) (xa_cons (xv 16) (xa_cons (c_tuple (by rfl) T.z_tuple (xa_cons (c_sortE hr.units (by rfl) T.z_sorted (xa_cons (xv 7) xa_nil)) xa_nil)) (xa_cons (c_tuple (by rfl) T.z_tuple (xa_cons (xv 14) xa_nil)) (xa_cons (c_tuple (by rfl) T.z_tuple (xa_cons (xv 13) xa_nil)) (xa_cons (xe_tup xa_nil) xa_nil))))))))))))))))))))
theorem der_law_store (T : Txt mg) {F_law_draw : DSpec} (D_law_draw : TDef P w K mg base 1 "_law_draw" s_law_draw ["source", "many"] F_law_draw) (f : Addr) (cdv : Value) (A : Around) (outer : List PySem.Env) (s : Shared) (H : Hp) (E : XK) (hr : Room 1 (A.deeper (envOfC "_law_store" (defScope s_law_store) s.heap.objs.size f cdv))) :
  XSs (cxOf CX0 P w K mg base N_law_store "_law_store" (defScope s_law_store) f cdv A outer s H E).nox (defBody s_law_store) (d_law_store F_law_draw) :=
(xss_cons (xs_set 4 sc_law_store.nd (xe_lst xa_nil))
(xss_cons (xs_for PassesOwn.never rfl (xi_range1 (by rfl) T.z_range (xa_cons (xv 3) xa_nil)) (xg_name 5 sc_law_store.nd)
(xss_cons (xs_set 6 sc_law_store.nd (x_ixA hr.units (x_ixA hr.units (xv 1) xe_int) (c_def D_law_draw hr (xa_cons (xv 0) (xa_cons (c_lenA (by rfl) T.z_len (xa_cons (x_ixA hr.units (xv 1) xe_int) xa_nil)) xa_nil)))))
(xss_cons (xs_set 7 sc_law_store.nd (xe_tup (xa_cons (x_ixA hr.units (xv 6) xe_int) (xa_cons (c_tuple (by rfl) T.z_tuple (xa_cons (xe_comp [("c", 10)] rfl sc_law_store.nd (xi_range1 (by rfl) T.z_range (xa_cons (x_ixA hr.units (xv 6) xe_int) xa_nil)) (blkOk_by (by kernel_rfl)) (fun _ _ _ _ _ => (xcg_name 10 sc_law_store.nd)) (fun _ _ _ _ _ => xts_nil) (fun _ _ _ _ _ => (x_ixA hr.units (xv 2) (c_def D_law_draw hr (xa_cons (xv 0) (xa_cons (c_lenA (by rfl) T.z_len (xa_cons (xv 2) xa_nil)) xa_nil)))))) xa_nil)) xa_nil))))
(xss_cons (xs_setComp 8 [("one", 9)] rfl sc_law_store.nd (xi_seq (x_ixA hr.units (xv 1) xe_int)) (blkOk_by (by kernel_rfl)) (fun _ _ _ _ _ => (xcg_name 9 sc_law_store.nd)) (fun _ _ _ _ _ => (xts_one (t_eq hr.units (x_ixA hr.units (xv 9) xe_int) (x_ixA hr.units (xv 6) xe_int)))) (fun _ _ _ _ _ => (xe_tup (xa_cons (x_ixA hr.units (xv 9) xe_int) (xa_cons (x_ixA hr.units (xv 7) xe_int) xa_nil)))) (sw_true rfl rfl rfl (by decide +kernel)))
(xss_one (xs_for PassesOwn.never rfl (xi_seq (xe_if (t_eq hr.units (c_def D_law_draw hr (xa_cons (xv 0) (xa_cons xe_int xa_nil))) xe_int) (xe_lst (xa_cons (xv 7) xa_nil)) (xv 8))) (xg_name 9 sc_law_store.nd)
(xss_one (xs_if (t_notinP hr (xv 9) (xv 4))
(xss_one (xs_expr (m_append (xv 4) (xa_cons (xv 9) xa_nil))))
xss_nil))))))))
(xss_one (xs_ret (c_tuple (by rfl) T.z_tuple (xa_cons (c_sortE hr.units (by rfl) T.z_sorted (xa_cons (xv 4) xa_nil)) xa_nil))))))
theorem der_law_wide (T : Txt mg) {F_law_draw : DSpec} (D_law_draw : TDef P w K mg base 1 "_law_draw" s_law_draw ["source", "many"] F_law_draw) (f : Addr) (cdv : Value) (A : Around) (outer : List PySem.Env) (s : Shared) (H : Hp) (E : XK) (hr : Room 1 (A.deeper (envOfC "_law_wide" (defScope s_law_wide) s.heap.objs.size f cdv))) :
  XSs (cxOf CX0 P w K mg base N_law_wide "_law_wide" (defScope s_law_wide) f cdv A outer s H E).nox (defBody s_law_wide) (d_law_wide F_law_draw) :=
(xss_cons (xs_set 2 sc_law_wide.nd (xe_lst xa_nil))
(xss_cons (xs_for PassesOwn.never rfl (xi_seq (x_ixA hr.units (xv 1) xe_int)) (xg_name 3 sc_law_wide.nd)
(xss_cons (xs_set 4 sc_law_wide.nd (x_div xe_int (c_lenA (by rfl) T.z_len (xa_cons (x_ixA hr.units (xv 1) xe_int) xa_nil))))
(xss_cons (xs_set 5 sc_law_wide.nd (x_add xe_int (c_def D_law_draw hr (xa_cons (xv 0) (xa_cons xe_int xa_nil)))))
(xss_one (xs_for PassesOwn.never rfl (xi_range1 (by rfl) T.z_range (xa_cons (xv 4) xa_nil)) (xg_name 6 sc_law_wide.nd)
(xss_cons (xs_setComp 7 [("c", 8)] rfl sc_law_wide.nd (xi_range1 (by rfl) T.z_range (xa_cons (x_ixA hr.units (xv 3) xe_int) xa_nil)) (blkOk_by (by kernel_rfl)) (fun _ _ _ _ _ => (xcg_name 8 sc_law_wide.nd)) (fun _ _ _ _ _ => xts_nil) (fun _ _ _ _ _ => (x_mod (c_int (by rfl) T.z_int (xa_cons (x_mul (xv 6) (xv 5)) xa_nil)) xe_int)) (sw_true rfl rfl rfl (by decide +kernel)))
(xss_cons (xs_asg (x_mul (xv 6) xe_int) (g_subA hr.units (xv 7) (x_neg xe_int)))
(xss_one (xs_expr (m_append (xv 2) (xa_cons (xe_tup (xa_cons (x_ixA hr.units (xv 3) xe_int) (xa_cons (c_tuple (by rfl) T.z_tuple (xa_cons (xv 7) xa_nil)) xa_nil))) xa_nil)))))))))))
(xss_one (xs_ret (c_tuple (by rfl) T.z_tuple (xa_cons (c_sortE hr.units (by rfl) T.z_sorted (xa_cons (xv 2) xa_nil)) xa_nil))))))
theorem der_law_meets (T : Txt mg) (f : Addr) (cdv : Value) (A : Around) (outer : List PySem.Env) (s : Shared) (H : Hp) (E : XK) (hr : Room 0 (A.deeper (envOfC "_law_meets" (defScope s_law_meets) s.heap.objs.size f cdv))) :
  XSs (cxOf CX0 P w K mg base N_law_meets "_law_meets" (defScope s_law_meets) f cdv A outer s H E).nox (defBody s_law_meets) (d_law_meets) :=
(xss_cons (xs_setComp 4 [("row", 5)] rfl sc_law_meets.nd (xi_seq (xv 1)) (blkOk_by (by kernel_rfl)) (fun _ _ _ _ _ => (xcg_name 5 sc_law_meets.nd)) (fun _ _ _ _ _ => (xts_one (t_eq hr.units (x_ixA hr.units (xv 5) xe_int) (x_ixA hr.units (xv 2) xe_int)))) (fun _ _ _ _ _ => (x_ixA hr.units (xv 5) xe_int)) (sw_true rfl rfl rfl (by decide +kernel)))
(xss_one (xs_ret (c_sortE hr.units (by rfl) T.z_sorted (xa_cons (xe_comp [("row", 5)] rfl sc_law_meets.nd (xi_seq (xv 4)) (blkOk_by (by kernel_rfl)) (fun _ _ _ _ _ => (xcg_name 5 sc_law_meets.nd)) (fun _ _ _ _ _ => (xts_one (t_eq hr.units (c_tuple (by rfl) T.z_tuple (xa_cons (xe_comp [("c", 6)] rfl sc_law_meets.nd (xi_seq (x_ixA hr.units (xv 2) xe_int)) (blkOk_by (by kernel_rfl)) (fun _ _ _ _ _ => (xcg_name 6 sc_law_meets.nd)) (fun _ _ _ _ _ => xts_nil) (fun _ _ _ _ _ => (x_ixA hr.units (xv 5) (xv 6)))) xa_nil)) (xv 3)))) (fun _ _ _ _ _ => (xv 5))) xa_nil)))))
theorem der_law_width (T : Txt mg) (f : Addr) (cdv : Value) (A : Around) (outer : List PySem.Env) (s : Shared) (H : Hp) (E : XK) (hr : Room 0 (A.deeper (envOfC "_law_width" (defScope s_law_width) s.heap.objs.size f cdv))) :
  XSs (cxOf CX0 P w K mg base N_law_width "_law_width" (defScope s_law_width) f cdv A outer s H E).nox (defBody s_law_width) (d_law_width) :=
(xss_cons (xs_for PassesOwn.never rfl (xi_seq (x_ixA hr.units (xv 0) xe_int)) (xg_name 2 sc_law_width.nd)
(xss_one (xs_if (t_eq hr.units (x_ixA hr.units (xv 2) xe_int) (xv 1))
(xss_one (xs_ret (x_ixA hr.units (xv 2) xe_int)))
xss_nil)))
(xss_one (xs_ret xe_int)))
theorem der_law_calls (T : Txt mg) {F_law_draw : DSpec} (D_law_draw : TDef P w K mg base 1 "_law_draw" s_law_draw ["source", "many"] F_law_draw) (f : Addr) (cdv : Value) (A : Around) (outer : List PySem.Env) (s : Shared) (H : Hp) (E : XK) (hr : Room 1 (A.deeper (envOfC "_law_calls" (defScope s_law_calls) s.heap.objs.size f cdv))) :
  XSs (cxOf CX0 P w K mg base N_law_calls "_law_calls" (defScope s_law_calls) f cdv A outer s H E).nox (defBody s_law_calls) (d_law_calls F_law_draw) :=
(xss_cons (xs_setComp 5 [("row", 9)] rfl sc_law_calls.nd (xi_seq (xv 2)) (blkOk_by (by kernel_rfl)) (fun _ _ _ _ _ => (xcg_name 9 sc_law_calls.nd)) (fun _ _ _ _ _ => (xts_one (t_eq hr.units (x_ixA hr.units (xv 9) xe_int) (x_ixA hr.units (xv 4) xe_int)))) (fun _ _ _ _ _ => (x_ixA hr.units (xv 9) xe_int)) (sw_true rfl rfl rfl (by decide +kernel)))
(xss_cons (xs_set 6 sc_law_calls.nd (xe_lst xa_nil))
(xss_cons (xs_for PassesOwn.never rfl (xi_range1 (by rfl) T.z_range (xa_cons xe_int xa_nil)) (xg_name 7 sc_law_calls.nd)
(xss_cons (xs_set 8 sc_law_calls.nd (c_tuple (by rfl) T.z_tuple (xa_cons (xe_comp [("c", 10)] rfl sc_law_calls.nd (xi_seq (x_ixA hr.units (xv 4) xe_int)) (blkOk_by (by kernel_rfl)) (fun _ _ _ _ _ => (xcg_name 10 sc_law_calls.nd)) (fun _ _ _ _ _ => xts_nil) (fun _ _ _ _ _ => (x_ixA hr.units (xv 3) (c_def D_law_draw hr (xa_cons (xv 0) (xa_cons (c_lenA (by rfl) T.z_len (xa_cons (xv 3) xa_nil)) xa_nil)))))) xa_nil)))
(xss_cons (xs_if (XW.xt (xw_and (t_gt (c_lenA (by rfl) T.z_len (xa_cons (xv 5) xa_nil)) xe_int) (xw_and1 (t_gt (xv 7) xe_int))))
(xss_cons (xs_set 9 sc_law_calls.nd (x_ixA hr.units (xv 5) (c_def D_law_draw hr (xa_cons (xv 0) (xa_cons (c_lenA (by rfl) T.z_len (xa_cons (xv 5) xa_nil)) xa_nil)))))
(xss_one (xs_set 8 sc_law_calls.nd (c_tuple (by rfl) T.z_tuple (xa_cons (xe_comp [("c", 10)] rfl sc_law_calls.nd (xi_seq (x_ixA hr.units (xv 4) xe_int)) (blkOk_by (by kernel_rfl)) (fun _ _ _ _ _ => (xcg_name 10 sc_law_calls.nd)) (fun _ _ _ _ _ => xts_nil) (fun _ _ _ _ _ => (x_ixA hr.units (xv 9) (xv 10)))) xa_nil)))))
xss_nil)
(xss_one (xs_expr (m_append (xv 6) (xa_cons (xv 8) xa_nil)))))))
(xss_one (xs_ret (xv 6))))))
theorem der_law_picks (T : Txt mg) {F_law_calls : DSpec} {F_law_meets : DSpec} {F_law_width : DSpec} {F_law_draw : DSpec} (D_law_calls : TDef P w K mg base 2 "_law_calls" s_law_calls ["source", "house", "store", "values", "door"] F_law_calls) (D_law_meets : TDef P w K mg base 1 "_law_meets" s_law_meets ["house", "store", "door", "told"] F_law_meets) (D_law_width : TDef P w K mg base 1 "_law_width" s_law_width ["house", "name"] F_law_width) (D_law_draw : TDef P w K mg base 1 "_law_draw" s_law_draw ["source", "many"] F_law_draw) (f : Addr) (cdv : Value) (A : Around) (outer : List PySem.Env) (s : Shared) (H : Hp) (E : XK) (hr : Room 2 (A.deeper (envOfC "_law_picks" (defScope s_law_picks) s.heap.objs.size f cdv))) :
  XSs (cxOf CX0 P w K mg base N_law_picks "_law_picks" (defScope s_law_picks) f cdv A outer s H E).nox (defBody s_law_picks) (d_law_picks P w F_law_calls F_law_meets F_law_width F_law_draw) :=
(xss_cons (xs_set 4 sc_law_picks.nd xe_dictN)
(xss_cons (xs_for PassesOwn.never rfl (xi_seq (x_ixA hr.units (xv 1) xe_int)) (xg_name 5 sc_law_picks.nd)
(xss_one (xs_if (t_eq hr.units (x_ixA hr.units (xv 5) xe_int) xe_str)
(xss_one (xs_for PassesOwn.never rfl (xi_seq (x_add (c_def D_law_calls hr (xa_cons (xv 0) (xa_cons (xv 1) (xa_cons (xv 2) (xa_cons (xv 3) (xa_cons (xv 5) xa_nil)))))) (c_def D_law_calls hr (xa_cons (xv 0) (xa_cons (xv 1) (xa_cons (xv 2) (xa_cons (xv 3) (xa_cons (xv 5) xa_nil)))))))) (xg_name 6 sc_law_picks.nd)
(xss_cons (xs_set 7 sc_law_picks.nd (c_def D_law_meets hr (xa_cons (xv 1) (xa_cons (xv 2) (xa_cons (xv 5) (xa_cons (xv 6) xa_nil))))))
(xss_cons (xs_setComp 8 [("c", 11)] rfl sc_law_picks.nd (xi_range1 (by rfl) T.z_range (xa_cons (c_def D_law_width hr (xa_cons (xv 1) (xa_cons (x_ixA hr.units (xv 5) xe_int) xa_nil))) xa_nil)) (blkOk_by (by kernel_rfl)) (fun _ _ _ _ _ => (xcg_name 11 sc_law_picks.nd)) (fun _ _ _ _ _ => xts_nil) (fun _ _ _ _ _ => (x_ixA hr.units (xv 3) (c_def D_law_draw hr (xa_cons (xv 0) (xa_cons (c_lenA (by rfl) T.z_len (xa_cons (xv 3) xa_nil)) xa_nil))))) (sw_true rfl rfl rfl (by decide +kernel)))
(xss_cons (xs_for PassesOwn.never rfl (xi_range1 (by rfl) T.z_range (xa_cons (c_lenA (by rfl) T.z_len (xa_cons (xv 6) xa_nil)) xa_nil)) (xg_name 9 sc_law_picks.nd)
(xss_one (xs_asg (x_ixA hr.units (xv 6) (xv 9)) (g_subA hr.units (xv 8) (x_ixA hr.units (x_ixA hr.units (xv 5) xe_int) (xv 9))))))
(xss_cons (xs_set 10 sc_law_picks.nd (c_def D_law_draw hr (xa_cons (xv 0) (xa_cons xe_int xa_nil))))
(xss_cons (xs_if (XW.xt (xw_and (t_gt (xv 10) xe_int) (xw_and1 (t_gt (c_lenA (by rfl) T.z_len (xa_cons (xv 7) xa_nil)) xe_int))))
(xss_one (xs_set 8 sc_law_picks.nd (xe_if (t_eq hr.units (xv 10) xe_int) (x_ixA hr.units (xv 7) (x_neg xe_int)) (x_ixA hr.units (xv 7) (c_def D_law_draw hr (xa_cons (xv 0) (xa_cons (c_lenA (by rfl) T.z_len (xa_cons (xv 7) xa_nil)) xa_nil)))))))
xss_nil)
(xss_one (xs_if (t_lt (xv 10) xe_int)
(xss_one (xs_asg (c_tuple (by rfl) T.z_tuple (xa_cons (xv 8) xa_nil)) (g_subN hr.units (xv 4) (xe_tup (xa_cons (x_ixA hr.units (xv 5) xe_int) (xa_cons (xv 6) xa_nil))))))
xss_nil)))))))))
xss_nil)))
(xss_one (xs_ret (c_tuple (by rfl) T.z_tuple (xa_cons (c_sortE hr.units (by rfl) T.z_sorted (xa_cons (xe_comp [("call", 6)] rfl sc_law_picks.nd (xi_keysN (xv 4)) (blkOk_by (by kernel_rfl)) (fun _ _ _ _ _ => (xcg_name 6 sc_law_picks.nd)) (fun _ _ _ _ _ => xts_nil) (fun _ _ _ _ _ => (xe_tup (xa_cons (x_ixA hr.units (xv 6) xe_int) (xa_cons (x_ixA hr.units (xv 6) xe_int) (xa_cons (x_ixN hr.units (xv 4) (xv 6)) xa_nil)))))) xa_nil)) xa_nil))))))
theorem der_law_due (T : Txt mg) {F_law_meets : DSpec} (D_law_meets : TDef P w K mg base 1 "_law_meets" s_law_meets ["house", "store", "door", "told"] F_law_meets) (f : Addr) (cdv : Value) (A : Around) (outer : List PySem.Env) (s : Shared) (H : Hp) (E : XK) (hr : Room 1 (A.deeper (envOfC "_law_due" (defScope s_law_due) s.heap.objs.size f cdv))) :
  XSs (cxOf CX0 P w K mg base N_law_due "_law_due" (defScope s_law_due) f cdv A outer s H E).nox (defBody s_law_due) (d_law_due F_law_meets) :=
(xss_cons (xs_set 5 sc_law_due.nd (c_def D_law_meets hr (xa_cons (xv 0) (xa_cons (xv 1) (xa_cons (xv 3) (xa_cons (xv 4) xa_nil))))))
(xss_cons (xs_if (XW.xt (xw_or (t_eq hr.units (x_ixA hr.units (xv 3) xe_int) xe_str) (xw_or1 (t_eq hr.units (c_lenA (by rfl) T.z_len (xa_cons (xv 5) xa_nil)) xe_int))))
(xss_one (xs_ret (xv 5)))
xss_nil)
(xss_cons (xs_for PassesOwn.never rfl (xi_seq (xv 2)) (xg_name 6 sc_law_due.nd)
(xss_one (xs_if (XW.xt (xw_and (t_eq hr.units (x_ixA hr.units (xv 6) xe_int) (x_ixA hr.units (xv 3) xe_int)) (xw_and (t_eq hr.units (x_ixA hr.units (xv 6) xe_int) (xv 4)) (xw_and1 (t_inP hr (x_ixA hr.units (xv 6) xe_int) (xv 5))))))
(xss_one (xs_ret (xe_lst (xa_cons (x_ixA hr.units (xv 6) xe_int) xa_nil))))
xss_nil)))
(xss_one (xs_ret (x_slice (xv 5) xo_none (xo_some xe_int)))))))
theorem der_law_alike (T : Txt mg) (f : Addr) (cdv : Value) (A : Around) (outer : List PySem.Env) (s : Shared) (H : Hp) (E : XK) (hr : Room 0 (A.deeper (envOfC "_law_alike" (defScope s_law_alike) s.heap.objs.size f cdv))) :
  XSs (cxOf CX0 P w K mg base N_law_alike "_law_alike" (defScope s_law_alike) f cdv A outer s H E).nox (defBody s_law_alike) (d_law_alike) :=
(xss_cons (xs_if (xt_val (c_isi (by rfl) T.z_isinstance (xa_cons (xv 1) (xa_cons (xe_ty (n := "str") (by rfl) T.z_str (by decide +kernel)) xa_nil))))
(xss_one (xs_ret (xe_and (c_isi (by rfl) T.z_isinstance (xa_cons (xv 0) (xa_cons (xe_ty (n := "str") (by rfl) T.z_str (by decide +kernel)) xa_nil))) (xe_one (x_eq hr.units (xv 0) (xv 1))))))
xss_nil)
(xss_cons (xs_if (xt_val (c_isi (by rfl) T.z_isinstance (xa_cons (xv 1) (xa_cons (xe_ty (n := "int") (by rfl) T.z_int (by decide +kernel)) xa_nil))))
(xss_one (xs_ret (xe_and (c_isi (by rfl) T.z_isinstance (xa_cons (xv 0) (xa_cons (xe_ty (n := "int") (by rfl) T.z_int (by decide +kernel)) xa_nil))) (xe_and (xe_notU (c_isi (by rfl) T.z_isinstance (xa_cons (xv 0) (xa_cons (xe_ty (n := "bool") (by rfl) T.z_bool (by decide +kernel)) xa_nil)))) (xe_one (x_eq hr.units (xv 0) (xv 1)))))))
xss_nil)
(xss_one (xs_ret (xe_and (c_isi (by rfl) T.z_isinstance (xa_cons (xv 0) (xa_cons (xe_ty (n := "tuple") (by rfl) T.z_tuple (by decide +kernel)) xa_nil))) (xe_one (x_eq hr.units (c_lenA (by rfl) T.z_len (xa_cons (xv 0) xa_nil)) (c_lenA (by rfl) T.z_len (xa_cons (xv 1) xa_nil)))))))))
theorem der_law_same (T : Txt mg) {F_law_alike : DSpec} (D_law_alike : TDef P w K mg base 1 "_law_alike" s_law_alike ["told", "due"] F_law_alike) (f : Addr) (cdv : Value) (A : Around) (outer : List PySem.Env) (s : Shared) (H : Hp) (E : XK) (hr : Room 1 (A.deeper (envOfC "_law_same" (defScope s_law_same) s.heap.objs.size f cdv))) :
  XSs (cxOf CX0 P w K mg base N_law_same "_law_same" (defScope s_law_same) f cdv A outer s H E).nox (defBody s_law_same) (d_law_same F_law_alike) :=
(xss_cons (xs_set 2 sc_law_same.nd (xe_lst (xa_cons (xe_tup (xa_cons (xv 0) (xa_cons (xv 1) xa_nil))) xa_nil)))
(xss_cons (xs_for PassesOwn.never rfl (xi_range1 (by rfl) T.z_range (xa_cons xe_int xa_nil)) (xg_name 3 sc_law_same.nd)
(xss_cons (xs_if (t_eq hr.units (c_lenA (by rfl) T.z_len (xa_cons (xv 2) xa_nil)) xe_int)
(xss_one (xs_ret xe_bl))
xss_nil)
(xss_cons (xs_set 4 sc_law_same.nd (m_pop0 (xv 2)))
(xss_cons (xs_if (xt_not (xt_val (c_def D_law_alike hr (xa_cons (x_ixA hr.units (xv 4) xe_int) (xa_cons (x_ixA hr.units (xv 4) xe_int) xa_nil)))))
(xss_one (xs_ret xe_bl))
xss_nil)
(xss_one (xs_if (XW.xt (xw_and (xt_not (xt_val (c_isi (by rfl) T.z_isinstance (xa_cons (x_ixA hr.units (xv 4) xe_int) (xa_cons (xe_ty (n := "str") (by rfl) T.z_str (by decide +kernel)) xa_nil))))) (xw_and1 (xt_not (xt_val (c_isi (by rfl) T.z_isinstance (xa_cons (x_ixA hr.units (xv 4) xe_int) (xa_cons (xe_ty (n := "int") (by rfl) T.z_int (by decide +kernel)) xa_nil))))))))
(xss_one (xs_for PassesOwn.never rfl (xi_range1 (by rfl) T.z_range (xa_cons (c_lenA (by rfl) T.z_len (xa_cons (x_ixA hr.units (xv 4) xe_int) xa_nil)) xa_nil)) (xg_name 5 sc_law_same.nd)
(xss_one (xs_expr (m_append (xv 2) (xa_cons (xe_tup (xa_cons (x_ixA hr.units (x_ixA hr.units (xv 4) xe_int) (xv 5)) (xa_cons (x_ixA hr.units (x_ixA hr.units (xv 4) xe_int) (xv 5)) xa_nil))) xa_nil))))))
xss_nil))))))
(xss_one (xs_ret xe_bl))))
theorem der_law_by (T : Txt mg) (f : Addr) (cdv : Value) (A : Around) (outer : List PySem.Env) (s : Shared) (H : Hp) (E : XK) (hr : Room 0 (A.deeper (envOfC "_law_by" (defScope s_law_by) s.heap.objs.size f cdv))) :
  XSs (cxOf CX0 P w K mg base N_law_by "_law_by" (defScope s_law_by) f cdv A outer s H E).nox (defBody s_law_by) (d_law_by P w) :=
(xss_cons (xs_set 3 sc_law_by.nd (xe_lst xa_nil))
(xss_cons (xs_for PassesOwn.never rfl (xi_seq (x_ixA hr.units (xv 0) xe_int)) (xg_name 4 sc_law_by.nd)
(xss_one (xs_if (t_eq hr.units (x_ixA hr.units (xv 4) xe_int) xe_str)
(xss_cons (xs_set 5 sc_law_by.nd xe_dictN)
(xss_cons (xs_for PassesOwn.never rfl (xi_seq (xv 1)) (xg_name 6 sc_law_by.nd)
(xss_cons (xs_set 7 sc_law_by.nd (xe_if (t_eq hr.units (x_ixA hr.units (xv 6) xe_int) (x_ixA hr.units (xv 4) xe_int)) (c_tuple (by rfl) T.z_tuple (xa_cons (xe_comp [("c", 9)] rfl sc_law_by.nd (xi_seq (x_ixA hr.units (xv 4) xe_int)) (blkOk_by (by kernel_rfl)) (fun _ _ _ _ _ => (xcg_name 9 sc_law_by.nd)) (fun _ _ _ _ _ => xts_nil) (fun _ _ _ _ _ => (x_ixA hr.units (x_ixA hr.units (xv 6) xe_int) (xv 9)))) xa_nil)) xe_non))
(xss_cons (xs_if (XW.xt (xw_and (t_isnot (xv 7) xe_non) (xw_and1 (t_notinN hr.units (xv 7) (xv 5)))))
(xss_one (xs_asg (xe_lst xa_nil) (g_subN hr.units (xv 5) (xv 7))))
xss_nil)
(xss_one (xs_if (t_isnot (xv 7) xe_non)
(xss_cons (xs_set 8 sc_law_by.nd (x_ixN hr.units (xv 5) (xv 7)))
(xss_one (xs_expr (m_append (xv 8) (xa_cons (x_ixA hr.units (xv 6) xe_int) xa_nil)))))
xss_nil)))))
(xss_one (xs_for PassesOwn.never rfl (xi_seq (c_sortE hr.units (by rfl) T.z_sorted (xa_cons (xe_comp [("one", 10)] rfl sc_law_by.nd (xi_keysN (xv 5)) (blkOk_by (by kernel_rfl)) (fun _ _ _ _ _ => (xcg_name 10 sc_law_by.nd)) (fun _ _ _ _ _ => xts_nil) (fun _ _ _ _ _ => (xv 10))) xa_nil))) (xg_name 7 sc_law_by.nd)
(xss_cons (xs_set 8 sc_law_by.nd (c_sortE hr.units (by rfl) T.z_sorted (xa_cons (x_ixN hr.units (xv 5) (xv 7)) xa_nil)))
(xss_one (xs_expr (m_append (xv 3) (xa_cons (xe_tup (xa_cons (x_ixA hr.units (xv 4) xe_int) (xa_cons (xv 7) (xa_cons (x_ixA hr.units (xv 8) (x_mod (c_int (by rfl) T.z_int (xa_cons (xv 2) xa_nil)) (c_lenA (by rfl) T.z_len (xa_cons (xv 8) xa_nil)))) xa_nil)))) xa_nil)))))))))
xss_nil)))
(xss_one (xs_ret (xv 3)))))
theorem der_law_asked (T : Txt mg) {F_law_house : DSpec} {F_law_wide : DSpec} {F_law_store : DSpec} {F_law_draw : DSpec} {F_law_picks : DSpec} {F_law_calls : DSpec} {F_law_due : DSpec} {F_law_same : DSpec} {F_shows : DSpec} {F_law_by : DSpec} {F_picks_by : DSpec} (D_law_house : TDef P w K mg base 3 "_law_house" s_law_house ["source", "names", "values"] F_law_house) (D_law_wide : TDef P w K mg base 2 "_law_wide" s_law_wide ["source", "house"] F_law_wide) (D_law_store : TDef P w K mg base 2 "_law_store" s_law_store ["source", "house", "values", "many"] F_law_store) (D_law_draw : TDef P w K mg base 1 "_law_draw" s_law_draw ["source", "many"] F_law_draw) (D_law_picks : TDef P w K mg base 3 "_law_picks" s_law_picks ["source", "house", "store", "values"] F_law_picks) (D_law_calls : TDef P w K mg base 2 "_law_calls" s_law_calls ["source", "house", "store", "values", "door"] F_law_calls) (D_law_due : TDef P w K mg base 2 "_law_due" s_law_due ["house", "store", "picks", "door", "call"] F_law_due) (D_law_same : TDef P w K mg base 2 "_law_same" s_law_same ["told", "due"] F_law_same) (D_shows : TDef P w K mg base 4 "shows" s_shows ["house", "store", "picks", "door", "values"] F_shows) (D_law_by : TDef P w K mg base 1 "_law_by" s_law_by ["house", "store", "number"] F_law_by) (D_picks_by : TDef P w K mg base 3 "picks_by" s_picks_by ["house", "store", "number"] F_picks_by) (f : Addr) (cdv : Value) (A : Around) (outer : List PySem.Env) (s : Shared) (H : Hp) (E : XK) (hr : Room 4 (A.deeper (envOfC "_law_asked" (defScope s_law_asked) s.heap.objs.size f cdv))) :
  XSs (cxOf CX0 P w K mg base N_law_asked "_law_asked" (defScope s_law_asked) f cdv A outer s H E).nox (defBody s_law_asked) (d_law_asked F_law_house F_law_wide F_law_store F_law_draw F_law_picks F_law_calls F_law_due F_law_same F_shows F_law_by F_picks_by) :=
(xss_cons (xs_set 4 sc_law_asked.nd (c_def D_law_house hr (xa_cons (xv 0) (xa_cons (xv 1) (xa_cons (xv 2) xa_nil)))))
(xss_cons (xs_set 5 sc_law_asked.nd (xe_if (xt_val (xv 3)) (c_def D_law_wide hr (xa_cons (xv 0) (xa_cons (xv 4) xa_nil))) (c_def D_law_store hr (xa_cons (xv 0) (xa_cons (xv 4) (xa_cons (xv 2) (xa_cons (c_def D_law_draw hr (xa_cons (xv 0) (xa_cons xe_int xa_nil))) xa_nil)))))))
(xss_cons (xs_set 6 sc_law_asked.nd (c_def D_law_store hr (xa_cons (xv 0) (xa_cons (xv 4) (xa_cons (xv 2) (xa_cons (x_add xe_int (c_def D_law_draw hr (xa_cons (xv 0) (xa_cons xe_int xa_nil)))) xa_nil))))))
(xss_cons (xs_set 7 sc_law_asked.nd xe_int)
(xss_cons (xs_for PassesOwn.never rfl (xi_seq (x_ixA hr.units (xv 4) xe_int)) (xg_name 8 sc_law_asked.nd)
(xss_one (xs_for PassesOwn.never rfl (xi_range1 (by rfl) T.z_range (xa_cons xe_int xa_nil)) (xg_name 9 sc_law_asked.nd)
(xss_cons (xs_set 10 sc_law_asked.nd (c_def D_law_picks hr (xa_cons (xv 0) (xa_cons (xv 4) (xa_cons (xv 5) (xa_cons (xv 2) xa_nil))))))
(xss_one (xs_for PassesOwn.never rfl (xi_seq (c_def D_law_calls hr (xa_cons (xv 0) (xa_cons (xv 4) (xa_cons (xv 5) (xa_cons (xv 2) (xa_cons (xv 8) xa_nil))))))) (xg_name 11 sc_law_asked.nd)
(xss_cons (xs_set 12 sc_law_asked.nd (c_def D_law_due hr (xa_cons (xv 4) (xa_cons (xv 5) (xa_cons (xv 10) (xa_cons (xv 8) (xa_cons (xv 11) xa_nil)))))))
(xss_cons (xs_if (xt_not (xt_val (c_def D_law_same hr (xa_cons (c_def D_shows hr (xa_cons (xv 4) (xa_cons (xv 5) (xa_cons (xv 10) (xa_cons (x_ixA hr.units (xv 8) xe_int) (xa_cons (xv 11) xa_nil)))))) (xa_cons (xv 12) xa_nil)))))
(xss_one (xs_ret xe_bl))
xss_nil)
(xss_cons (xs_if (xt_not (xt_val (c_def D_law_same hr (xa_cons (c_def D_shows hr (xa_cons (xv 4) (xa_cons (xv 6) (xa_cons (xv 10) (xa_cons (x_ixA hr.units (xv 8) xe_int) (xa_cons (xv 11) xa_nil)))))) (xa_cons (c_def D_law_due hr (xa_cons (xv 4) (xa_cons (xv 6) (xa_cons (xv 10) (xa_cons (xv 8) (xa_cons (xv 11) xa_nil)))))) xa_nil)))))
(xss_one (xs_ret xe_bl))
xss_nil)
(xss_cons (xs_if (xt_not (xt_val (c_def D_law_same hr (xa_cons (c_def D_shows hr (xa_cons (xv 4) (xa_cons (xv 5) (xa_cons (xv 10) (xa_cons (x_ixA hr.units (xv 8) xe_int) (xa_cons (xv 11) xa_nil)))))) (xa_cons (xv 12) xa_nil)))))
(xss_one (xs_ret xe_bl))
xss_nil)
(xss_one (xs_set 7 sc_law_asked.nd (x_add (xv 7) xe_int)))))))))))))
(xss_cons (xs_for PassesOwn.never rfl (xi_seq (xe_tup (xa_cons (c_def D_law_draw hr (xa_cons (xv 0) (xa_cons xe_int xa_nil))) (xa_cons (x_mul (c_def D_law_draw hr (xa_cons (xv 0) (xa_cons (x_pow xe_int xe_int) xa_nil))) (x_pow xe_int xe_int)) (xa_cons xe_int xa_nil))))) (xg_name 13 sc_law_asked.nd)
(xss_one (xs_for PassesOwn.never rfl (xi_seq (xe_tup (xa_cons (xv 5) (xa_cons (xv 6) xa_nil)))) (xg_name 14 sc_law_asked.nd)
(xss_one (xs_if (xt_not (xt_val (c_def D_law_same hr (xa_cons (c_def D_picks_by hr (xa_cons (xv 4) (xa_cons (xv 14) (xa_cons (xv 13) xa_nil)))) (xa_cons (c_def D_law_by hr (xa_cons (xv 4) (xa_cons (xv 14) (xa_cons (xv 13) xa_nil)))) xa_nil)))))
(xss_one (xs_ret xe_bl))
xss_nil)))))
(xss_one (xs_ret (x_ge (xv 7) xe_int)))))))))
theorem der_law (T : Txt mg) {F_law_source : DSpec} {F_law_mix : DSpec} {F_law_pool : DSpec} {F_law_draw : DSpec} {F_law_asked : DSpec} {F_law_pool_values : DSpec} (D_law_source : TDef P w K mg base 1 "_law_source" s_law_source ["script"] F_law_source) (D_law_mix : TDef P w K mg base 2 "_law_mix" s_law_mix ["source", "things"] F_law_mix) (D_law_pool : TDef P w K mg base 2 "_law_pool" s_law_pool ["source", "many"] F_law_pool) (D_law_draw : TDef P w K mg base 1 "_law_draw" s_law_draw ["source", "many"] F_law_draw) (D_law_asked : TDef P w K mg base 5 "_law_asked" s_law_asked ["source", "names", "values", "wide"] F_law_asked) (D_law_pool_values : TDef P w K mg base 3 "_law_pool_values" s_law_pool_values ["source"] F_law_pool_values) (f : Addr) (cdv : Value) (A : Around) (outer : List PySem.Env) (s : Shared) (H : Hp) (E : XK) (hr : Room 5 (A.deeper (envOfC "law" (defScope s_law) s.heap.objs.size f cdv))) :
  XSs (cxOf CX0 P w K mg base N_law "law" (defScope s_law) f cdv A outer s H E).nox (defBody s_law) (d_law F_law_source F_law_mix F_law_pool F_law_draw F_law_asked F_law_pool_values) :=
(xss_cons (xs_set 1 sc_law.nd (c_def D_law_source hr (xa_cons (xv 0) xa_nil)))
(xss_cons (xs_set 2 sc_law.nd (c_def D_law_mix hr (xa_cons (xv 1) (xa_cons (c_def D_law_pool hr (xa_cons (xv 1) (xa_cons xe_int xa_nil))) xa_nil))))
(xss_cons (xs_set 3 sc_law.nd (x_eq hr.units (c_def D_law_draw hr (xa_cons (xv 1) (xa_cons xe_int xa_nil))) xe_int))
(xss_cons (xs_for PassesOwn.never rfl (xi_range1 (by rfl) T.z_range (xa_cons (xe_if (xt_val (xv 3)) xe_int xe_int) xa_nil)) (xg_name 4 sc_law.nd)
(xss_one (xs_if (xt_not (xt_val (c_def D_law_asked hr (xa_cons (xv 1) (xa_cons (xv 2) (xa_cons (c_def D_law_pool_values hr (xa_cons (xv 1) xa_nil)) (xa_cons (xv 3) xa_nil)))))))
(xss_one (xs_ret xe_bl))
xss_nil)))
(xss_one (xs_ret xe_bl))))))
end
end K25

namespace K25
open PySem PySem.Spec PyProof.Rows L2 DL

/-! ### the drawing state -/
structure Src where
  cells : List Int
  great : List Int
  rest : Int
  count : Int
def srcK (st : Src) : List (Key × DL.W) := [(.inr (Str.ofString "cells"), .ref 0), (.inr (Str.ofString "great"), .ref 1), (.inr (Str.ofString "rest"), .int st.rest), (.inr (Str.ofString "count"), .int st.count)]
abbrev SB (st : Src) (R : Sto) : Sto := .lst (st.cells.map W.int) :: .lst (st.great.map W.int) :: .dk (srcK st) :: R
structure Good (st : Src) : Prop where
  c0 : 0 < st.cells.length
  c1 : st.cells.length ≤ 63
  g1 : st.great.length ≤ 63
  gp : ∀ x ∈ st.great, (0 : Int) ≤ x
  r0 : 0 ≤ st.rest
  n0 : 0 ≤ st.count
theorem src_len (st : Src) : (srcK st).length = 4 := rfl
theorem src_cells (st : Src) : valW (srcK st) (.inr (Str.ofString "cells")) = some (.ref 0) := by unfold valW srcK; rfl
theorem src_great (st : Src) : valW (srcK st) (.inr (Str.ofString "great")) = some (.ref 1) := by unfold valW srcK; rfl
theorem src_rest (st : Src) : valW (srcK st) (.inr (Str.ofString "rest")) = some (.int st.rest) := by unfold valW srcK; rfl
theorem src_count (st : Src) : valW (srcK st) (.inr (Str.ofString "count")) = some (.int st.count) := by unfold valW srcK; rfl
theorem src_putR (st : Src) (v : Int) : putW (srcK st) (.inr (Str.ofString "rest")) (.int v) = srcK { st with rest := v } := rfl
theorem src_putC (st : Src) (v : Int) : putW (srcK st) (.inr (Str.ofString "count")) (.int v) = srcK { st with count := v } := rfl
theorem src_bnd (st : Src) (n : Nat) : (O.dk (srcK st)).bnd (n + 1 + 1 + 1) = true := by
  show (decide (0 < n + 1 + 1 + 1) && (decide (1 < n + 1 + 1 + 1) && (true && (true && true)))) = true
  simp
theorem closed_SB {st st' : Src} {R : Sto} (h : Closed (SB st R)) : Closed (SB st' R) := by
  rw [closed_iff] at h ⊢
  intro o ho
  rcases List.mem_cons.mp ho with rfl | ho
  · exact bndL_ints _ _
  · rcases List.mem_cons.mp ho with rfl | ho
    · exact bndL_ints _ _
    · rcases List.mem_cons.mp ho with rfl | ho
      · exact src_bnd _ _
      · exact h o (by simp [ho])
theorem endS {st st' : Src} {R : Sto} {Q : WK} {w : DL.W} (cl : Closed (SB st R)) (hp : w.pure = true) (q : Q w (SB st' R)) : Ends0 (R.length + 1 + 1 + 1) Q w (SB st' R) :=
  Ends0.keep (Nat.le_refl _) (closed_SB cl) (pure_bnd _ _ hp) q
theorem endST {st st' : Src} {R : Sto} {Q : WK} {w : DL.W} (T : Sto) (cl : Closed (SB st R)) (hp : w.pure = true) (q : Q w (SB st' R)) : Ends0 (R.length + 1 + 1 + 1) Q w (SB st' (R ++ T)) :=
  Ends0.drop (S0 := SB st' R) T (Nat.le_refl _) (closed_SB cl) (pure_bnd _ _ hp) q
/-- the last list is kept, what else is new goes -/
theorem endSL {st st' : Src} {R T : Sto} {Q : WK} {ws : List DL.W} {k j : Nat} (cl : Closed (SB st R)) (hk : T[k]? = some (.lst ws)) (hj : j = R.length + k + 1 + 1 + 1) (hp : W.pureL ws = true) (q : Q (.ref (R.length + 1 + 1 + 1)) (SB st' (R ++ [.lst ws]))) : Ends0 (R.length + 1 + 1 + 1) Q (.ref j) (SB st' (R ++ T)) := by
  have z := Ends0.last (n := R.length + 1 + 1 + 1) (Q := Q) (S := SB st' R) (T := T) (k := k) (ws := ws) (Nat.le_refl _) (closed_SB cl) hk hp q
  have e : (SB st' R).length + k = j := by rw [hj]; show R.length + 1 + 1 + 1 + k = _; omega
  rw [e] at z
  exact z
theorem sz4l : ((4 : Nat) < sizeLine) = True := eq_true (by decide)
end K25

namespace K25
open PySem PySem.Spec PyProof.Rows L2 TL DL
local macro_rules | `(tactic| walk_at "dl") => `(tactic| try simp (config := { decide := false }) only [e_seq, e_asg, e_nm, e_op, e_un, e_cb, e_c, e_var, e_ifs, e_tru, e_B, e_drop, e_bm, e_bm0, e_ret, e_retN, e_next, e_break, e_cont, e_nil, e_cons, e_tup, e_lst, e_sl, e_onone, e_osome, e_gsub, e_call, e_callk, e_and, e_or, e_not, e_andv, e_orv, e_notv, e_notU, e_isI, e_isS, e_isT, e_isR, e_isN, e_if, e_par, e_for, e_comp, e_iseq, e_rng1, e_rng3, e_zip, e_dictC, e_sc2, e_iseqF, e_yes, e_dictN, src_cells, src_great, src_rest, src_count, src_putR, src_putC, src_len, sz4l, e_nget1, e_nget2, e_lockN, e_dictCN, e_disp, e_ap0, e_ap1, e_gtp, e_gc, e_gn0,
  e_addI, e_addS, e_addT, e_addL, e_i20, e_i2, e_neg, e_cmpI, e_cmpS, e_eqI, e_eqS, e_eqB, e_ixT, e_ixLit, e_ixL, e_ixS, e_set, e_ixAT, e_ixALit, e_ixAL, e_ixAS, e_ixAD, e_setAL, e_setAD, e_dict0, e_inAL, e_inAT, e_inAD, e_inAS, e_listAT, e_listALit, e_listAL, e_listAD, e_max2, e_extend, e_isalpha, e_enum, keyW, sz0, sz1, sz2, sz3, sz4, sz5, sz6, O.dk.injEq, e_slT, e_slLit, e_slS, e_slL, e_lenAS, e_lenAT, e_lenALit, e_lenAL, e_lenAD, e_lenS, e_lenT, e_lenLit, e_lenL, e_i1, e_intI, e_intB, e_strI, e_strS, e_listT, e_listLit, e_listL, e_tupleT, e_tupleL, e_append, e_pop0, e_tyL, e_tyS, e_truL, e_truT, e_truB, e_truI, e_truS, e_truN, e_seqT, e_seqLit, e_seqL, e_in, e_inT, e_isi, kit_ll, kit_ss, kit_tt, kit_ii, kit_ib, tyW_L, tyW_S, tyW_T, tyW_I, tyW_B, cut_to1, cut_to2, cut_from1, wipeW_nil, wipeW_cons, Nat.reduceAdd, eq_self, List.map_cons, List.map_nil,
  atI_0, atI_1, atI_2, atI_3, atI_4, atI_5, atI_end, ixN_0, ixN_1, ixN_11, ixN_last, List.map_append, List.map_cons, List.map_nil, get_app, get_app0, set_app, set_app0, List.cons_append, List.nil_append, List.append_assoc, List.length_append, List.length_cons, List.length_nil, Nat.zero_add, List.length_map, List.length_set,
  List.getElem?_cons_zero, List.getElem?_cons_succ, List.set_cons_zero, List.set_cons_succ, Option.some.injEq, exists_eq_left', exists_eq_left, exists_and_left, W.int.injEq, W.bl.injEq, W.str.injEq, W.tup.injEq, W.ref.injEq, O.lst.injEq, List.cons.injEq, reduceCtorEq, false_and, exists_false, or_false, false_or, true_and, and_true, decide_eq_true_eq, Bool.false_xor, Bool.true_xor, Bool.not_eq_true', decide_eq_false_iff_not, List.isEmpty_cons, List.isEmpty_nil, Bool.not_true, Bool.not_false, if_true, if_false, not_true_eq_false, not_false_eq_true, ne_eq, Bool.false_eq_true, reduceIte])



/-! ### _law_draw -/
def F_draw : DSpec := fun ws S Q => ∃ st R many, ws = [.ref 2, .int many] ∧ S = SB st R ∧ Good st ∧ 0 < many ∧ many < 1073741824 ∧ ∀ st' r, Good st' → 0 ≤ r → r < many → Q (.int r) (SB st' R)
theorem draw_ok {st : Src} {R : Sto} {many : Int} {Q : WK} (g : Good st) (h0 : 0 < many) (h1 : many < 1073741824) (k : ∀ st' r, Good st' → 0 ≤ r → r < many → Q (.int r) (SB st' R)) : F_draw [.ref 2, .int many] (SB st R) Q :=
  ⟨st, R, many, rfl, rfl, g, h0, h1, k⟩
theorem at_ints {xs : List Int} {r : Int} (h0 : 0 ≤ r) (h1 : r < xs.length) : ∃ x, atI (xs.map W.int) r = some (.int x) := by
  obtain ⟨x, _, _, h⟩ := at_map (f := W.int) h0 h1
  exact ⟨x, h⟩
theorem cmulS {a b : Int} (h : 0 ≤ b) (h2 : b < 18446744073709551616) : CMul a b ∨ CMulW a b := .inl (.inr ⟨by omega, by omega⟩)
theorem vc_draw : ∀ ws S Q, Closed S → F_draw ws S Q → d_law_draw (endsW S.length Q) (startW N_law_draw.length ws) S := by
  rintro ws S Q cl ⟨st, R, many, rfl, rfl, g, h0, h1, q⟩
  show d_law_draw _ [some (.ref 2), some (.int many), none, none, none, none, none] _
  have r0 : 0 ≤ st.rest := g.r0
  unfold d_law_draw
  refine seqI (fun e s => ∃ st2, Good st2 ∧ e = [some (.ref 2), some (.int many), none, none, none, none, none] ∧ s = SB st2 R) (fun N hN => ?_) ?_
  · walk_at "dl"
    split
    · split
      · rename_i hr hl
        cases hg : st.great with
        | nil => rw [hg] at hl; exact absurd hl (by decide)
        | cons y gs =>
          have y0 : 0 ≤ y := g.gp y (by rw [hg]; exact List.mem_cons_self ..)
          have gl := g.g1
          rw [hg, List.length_cons] at gl
          refine pop1_ok (j := 0) (zs := (y :: gs).map W.int) (y := .int y) (by rw [← hg]; rfl) rfl rfl (by simp; omega) ?_
          walk_at "dl"
          refine hN _ _ ⟨⟨st.cells, gs, y, st.count⟩, ⟨g.c0, g.c1, by show gs.length ≤ 63; omega, fun x hx => g.gp x (by rw [hg]; exact List.mem_cons_of_mem _ hx), y0, g.n0⟩, rfl, ?_⟩
          rfl
      · exact hN _ _ ⟨st, g, rfl, rfl⟩
    · exact hN _ _ ⟨st, g, rfl, rfl⟩
  · rintro e s ⟨st2, g2, rfl, rfl⟩
    have s0 : 0 ≤ st2.rest := g2.r0
    refine seqI (fun e s => s = SB st2 R ∧ e = [some (.ref 2), some (.int many), none, none, none, none, none]) (fun N hN => ?_) ?_
    · walk_at "dl"
      split
      · refine ⟨h0, ⟨h0, log_small ⟨h0, by omega⟩⟩, ?_⟩
        exact endS (st' := ⟨st2.cells, st2.great, st2.rest / many, st2.count⟩) cl rfl (q _ _ ⟨g2.c0, g2.c1, g2.g1, g2.gp, Int.ediv_nonneg s0 (by omega), g2.n0⟩ (Int.emod_nonneg _ (by omega)) (Int.emod_lt_of_pos _ h0))
      · exact hN _ _ ⟨rfl, rfl⟩
    · rintro e s ⟨rfl, rfl⟩
      have c0 : (0 : Int) < st2.cells.length := by have := g2.c0; omega
      have n0 : 0 ≤ st2.count := g2.n0
      walk_at "dl"
      refine ⟨c0, ?_⟩
      obtain ⟨c, hc⟩ := at_ints (xs := st2.cells) (Int.emod_nonneg st2.count (by omega)) (Int.emod_lt_of_pos st2.count c0)
      rw [e_ixAL (i := 0) rfl hc]
      walk_at "dl"
      have a1 := Int.emod_nonneg c (b := 1000081) (by decide)
      have a2 := Int.emod_lt_of_pos c (b := 1000081) (by decide)
      have b1 := Int.emod_nonneg st2.count (b := 4999) (by decide)
      have b2 := Int.emod_lt_of_pos st2.count (b := 4999) (by decide)
      refine ⟨by decide, by decide, cmulS (by omega) (by omega), cmulS (by decide) (by decide), cmulS (by decide) (by decide), by decide, cmulS (by decide) (by decide), by decide, by decide, ?_⟩
      generalize (c % 1000081 + 7) * (st2.count % 4999 + 3) * 5501 + st2.count * 115249 + c % 7001 * 331 = one
      have d1 := Int.emod_nonneg one (b := 65213) (by decide)
      have d2 := Int.emod_lt_of_pos one (b := 65213) (by decide)
      refine ⟨cmulS (by omega) (by omega), cmulS (by decide) (by decide), by decide, ⟨by decide, by decide⟩, h0, ?_⟩
      exact endS (st' := ⟨st2.cells, st2.great, st2.rest, st2.count + 1⟩) cl rfl (q _ _ ⟨g2.c0, g2.c1, g2.g1, g2.gp, s0, by show 0 ≤ st2.count + 1; omega⟩ (Int.emod_nonneg _ (by omega)) (Int.emod_lt_of_pos _ h0))
/-! ### _law_mix -/
theorem perm_swap {α : Type} {l : List α} {i j : Nat} {x y : α} (hi : l[i]? = some x) (hj : l[j]? = some y) : ((l.set i y).set j x).Perm l := by
  obtain ⟨h1, e1⟩ := List.getElem?_eq_some_iff.mp hi
  obtain ⟨h2, e2⟩ := List.getElem?_eq_some_iff.mp hj
  subst e1 e2
  exact List.set_set_perm h1 h2
def SeqR (R : Sto) (w : DL.W) (us : List DL.W) : Prop := w = .tup us ∨ ∃ j, w = .ref (j + 1 + 1 + 1) ∧ R[j]? = some (.lst us)
def F_mix : DSpec := fun ws S Q => ∃ st R w us, ws = [.ref 2, w] ∧ S = SB st R ∧ Good st ∧ SeqR R w us ∧ W.pureL us = true ∧ us.length ≤ 1000 ∧ ∀ st' vs, Good st' → vs.Perm us → Q (.ref (R.length + 1 + 1 + 1)) (SB st' (R ++ [.lst vs]))
theorem mix_ok {st : Src} {R : Sto} {w : DL.W} {us : List DL.W} {Q : WK} (g : Good st) (hs : SeqR R w us) (hp : W.pureL us = true) (hl : us.length ≤ 1000) (k : ∀ st' vs, Good st' → vs.Perm us → Q (.ref (R.length + 1 + 1 + 1)) (SB st' (R ++ [.lst vs]))) : F_mix [.ref 2, w] (SB st R) Q :=
  ⟨st, R, w, us, rfl, rfl, g, hs, hp, hl, k⟩
theorem vc_mix : ∀ ws S Q, Closed S → F_mix ws S Q → d_law_mix F_draw (endsW S.length Q) (startW N_law_mix.length ws) S := by
  rintro ws S Q cl ⟨st, R, w, us, rfl, rfl, g, hs, hp, hl, q⟩
  show d_law_mix F_draw _ [some (.ref 2), some w, none, none, none, none] _
  unfold d_law_mix
  refine seqI (fun e s => e = [some (.ref 2), some w, some (.ref (R.length + 1 + 1 + 1)), none, none, none] ∧ s = SB st (R ++ [.lst us])) (fun N hN => ?_) ?_
  · rcases hs with rfl | ⟨j, rfl, hj⟩
    · walk_at "dl"
      exact hN _ _ ⟨rfl, rfl⟩
    · walk_at "dl"
      rw [e_listAL (i := j + 1 + 1 + 1) (ws := us) hj]
      exact hN _ _ ⟨rfl, rfl⟩
  · rintro e s ⟨rfl, rfl⟩
    walk_at "dl"
    refine ⟨by omega, by omega, ?_⟩
    rw [Int.toNat_natCast]
    refine forW_inv (fun i e s => ∃ st2 vs x3 x4 x5, e = [some (.ref 2), some w, some (.ref (R.length + 1 + 1 + 1)), x3, x4, x5] ∧ s = SB st2 (R ++ [.lst vs]) ∧ Good st2 ∧ vs.Perm us) ⟨st, us, _, _, _, rfl, rfl, g, List.Perm.refl _⟩ ?_ ?_
    · rintro i x e s hx ⟨st2, vs, x3, x4, x5, rfl, rfl, g2, hperm⟩ N hN
      obtain ⟨hi, rfl⟩ := rng_get hx
      have hlen := hperm.length_eq
      refine ⟨trivial, ?_⟩
      walk_at "dl"
      refine draw_ok (many := (vs.length : Int) - i) g2 (by omega) (by omega) fun st3 r g3 r0 r1 => ?_
      have hi2 : i < vs.length := by omega
      have hj2 : (i + r.toNat) < vs.length := by omega
      have ea : atI vs (i : Int) = some vs[i] := atI_nat (List.getElem?_eq_getElem hi2)
      have eb : atI vs ((i : Int) + r) = some vs[i + r.toNat] := by
        have e : (i : Int) + r = ((i + r.toNat : Nat) : Int) := by omega
        rw [e]
        exact atI_nat (List.getElem?_eq_getElem hj2)
      have ec : ixN vs.length (i : Int) = some i := ixN_nat hi2
      have ed : ixN (vs.set i vs[i + r.toNat]).length ((i : Int) + r) = some (i + r.toNat) := by
        have e : (i : Int) + r = ((i + r.toNat : Nat) : Int) := by omega
        rw [e, List.length_set]
        exact ixN_nat hj2
      have hS : ∀ zs, (SB st3 (R ++ [O.lst zs]))[R.length + 1 + 1 + 1]? = some (.lst zs) := fun zs => get_app0
      walk_at "dl"
      rw [e_ixAL (hS vs) ea]
      walk_at "dl"
      rw [e_ixAL (hS vs) eb]
      rw [e_setAL (hS vs) ec]
      walk_at "dl"
      rw [e_setAL (hS _) ed]
      walk_at "dl"
      exact hN _ _ ⟨st3, _, _, _, _, rfl, rfl, g3, (perm_swap (List.getElem?_eq_getElem hi2) (List.getElem?_eq_getElem hj2)).trans hperm⟩
    · rintro e s ⟨st2, vs, x3, x4, x5, rfl, rfl, g2, hperm⟩
      refine ⟨trivial, ?_⟩
      walk_at "dl"
      have hpv : W.pureL vs = true := by
        rw [pureL_all, List.all_eq_true] at hp ⊢
        exact fun x hx => hp x (hperm.mem_iff.mp hx)
      exact endSL (k := 0) cl rfl rfl hpv (q st2 vs g2 hperm)

end K25

namespace K25
open PySem PySem.Spec PyProof.Rows L2 TL DL
local macro_rules | `(tactic| walk_at "dl") => `(tactic| try simp (config := { decide := false }) only [e_seq, e_asg, e_nm, e_op, e_un, e_cb, e_c, e_var, e_ifs, e_tru, e_B, e_drop, e_bm, e_bm0, e_ret, e_retN, e_next, e_break, e_cont, e_nil, e_cons, e_tup, e_lst, e_sl, e_onone, e_osome, e_gsub, e_call, e_callk, e_and, e_or, e_not, e_andv, e_orv, e_notv, e_notU, e_isI, e_isS, e_isT, e_isR, e_isN, e_if, e_par, e_for, e_comp, e_iseq, e_rng1, e_rng3, e_zip, e_dictC, e_sc2, e_iseqF, e_yes, e_dictN, src_cells, src_great, src_rest, src_count, src_putR, src_putC, src_len, sz4l, e_nget1, e_nget2, e_lockN, e_dictCN, e_disp, e_ap0, e_ap1, e_gtp, e_gc, e_gn0,
  e_addI, e_addS, e_addT, e_addL, e_i20, e_i2, e_neg, e_cmpI, e_cmpS, e_eqI, e_eqS, e_eqB, e_ixT, e_ixLit, e_ixL, e_ixS, e_set, e_ixAT, e_ixALit, e_ixAL, e_ixAS, e_ixAD, e_setAL, e_setAD, e_dict0, e_inAL, e_inAT, e_inAD, e_inAS, e_listAT, e_listALit, e_listAL, e_listAD, e_max2, e_extend, e_isalpha, e_enum, keyW, sz0, sz1, sz2, sz3, sz4, sz5, sz6, O.dk.injEq, e_slT, e_slLit, e_slS, e_slL, e_lenAS, e_lenAT, e_lenALit, e_lenAL, e_lenAD, e_lenS, e_lenT, e_lenLit, e_lenL, e_i1, e_intI, e_intB, e_strI, e_strS, e_listT, e_listLit, e_listL, e_tupleT, e_tupleL, e_append, e_pop0, e_tyL, e_tyS, e_truL, e_truT, e_truB, e_truI, e_truS, e_truN, e_seqT, e_seqLit, e_seqL, e_in, e_inT, e_isi, kit_ll, kit_ss, kit_tt, kit_ii, kit_ib, tyW_L, tyW_S, tyW_T, tyW_I, tyW_B, cut_to1, cut_to2, cut_from1, wipeW_nil, wipeW_cons, Nat.reduceAdd, eq_self, List.map_cons, List.map_nil,
  atI_0, atI_1, atI_2, atI_3, atI_4, atI_5, atI_end, ixN_0, ixN_1, ixN_11, ixN_last, List.map_append, List.map_cons, List.map_nil, get_app, get_app0, set_app, set_app0, List.cons_append, List.nil_append, List.append_assoc, List.length_append, List.length_cons, List.length_nil, Nat.zero_add, List.length_map, List.length_set,
  List.getElem?_cons_zero, List.getElem?_cons_succ, List.set_cons_zero, List.set_cons_succ, Option.some.injEq, exists_eq_left', exists_eq_left, exists_and_left, W.int.injEq, W.bl.injEq, W.str.injEq, W.tup.injEq, W.ref.injEq, O.lst.injEq, List.cons.injEq, reduceCtorEq, false_and, exists_false, or_false, false_or, true_and, and_true, decide_eq_true_eq, Bool.false_xor, Bool.true_xor, Bool.not_eq_true', decide_eq_false_iff_not, List.isEmpty_cons, List.isEmpty_nil, Bool.not_true, Bool.not_false, if_true, if_false, not_true_eq_false, not_false_eq_true, ne_eq, Bool.false_eq_true, reduceIte])



/-! ### _law_source -/
def F_source : DSpec := fun ws S Q => ∃ ns : List Int, ws = [.lit (ns.map W.int)] ∧ S = [] ∧ ns.length ≤ 63 ∧ ∀ st, Good st → Q (.ref 2) (SB st [])
theorem cp18 : CPow 10 18 := ⟨by decide, by decide, by decide⟩
theorem vc_source : ∀ ws S Q, Closed S → F_source ws S Q → d_law_source (endsW S.length Q) (startW N_law_source.length ws) S := by
  rintro ws S Q cl ⟨ns, rfl, rfl, hl, q⟩
  show d_law_source _ [some _, none, none] _
  unfold d_law_source
  refine seqI (fun e s => ∃ cs : List Int, cs.length ≤ 63 ∧ s = [.lst (ns.map W.int), .lst (cs.map W.int)] ∧ e = [some (.lit (ns.map W.int)), some (.ref 1), none]) (fun N hN => ?_) ?_
  · walk_at "dl"
    rw [show (63 : Int) = ((63 : Nat) : Int) from rfl, cut_to, List.take_of_length_le (by rw [List.length_map]; exact hl)]
    refine compM (f := W.int) (h := W.int) rfl (by omega) (fun a ha K k => ?_) ?_
    · walk_at "dl"
      exact k
    · walk_at "dl"
      exact hN _ _ ⟨ns, hl, rfl, rfl⟩
  rintro e s ⟨cs, hcs, rfl, rfl⟩
  refine seqI (fun e s => ∃ (cs : List Int) (j : Nat) (T : Sto), 0 < cs.length ∧ cs.length ≤ 63 ∧ s = .lst (ns.map W.int) :: T ∧ T.length = j ∧ 0 < j ∧ (O.lst (ns.map W.int) :: T)[j]? = some (.lst (cs.map W.int)) ∧ e = [some (.lit (ns.map W.int)), some (.ref j), none]) (fun N hN => ?_) ?_
  · walk_at "dl"
    split
    · exact hN _ _ ⟨[0], 2, [.lst (cs.map W.int), .lst [.int 0]], by decide, by decide, rfl, rfl, by decide, rfl, rfl⟩
    · rename_i h
      exact hN _ _ ⟨cs, 1, [.lst (cs.map W.int)], by omega, hcs, rfl, rfl, by decide, rfl, rfl⟩
  rintro e s ⟨cs, j, T, c0, c1, rfl, hT, hj, hS, rfl⟩
  walk_at "dl"
  rw [e_seqL hS]
  refine compN (f := W.int) (h := fun a : Int => .int (if a < 0 then -a else a)) (p := fun a : Int => decide ((10 : Int) ^ 18 ≤ if a < 0 then -a else a)) hS (by omega) (fun a ha QT k => ?_) (fun a ha hp K k => ?_) ?_
  · walk_at "dl"
    refine ⟨cp18, ?_⟩
    exact k
  · walk_at "dl"
    exact k
  · walk_at "dl"
    refine ⟨[(.inr (Str.ofString "cells"), .ref j), (.inr (Str.ofString "great"), .ref (j + 1)), (.inr (Str.ofString "rest"), .int 0), (.inr (Str.ofString "count"), .int 0)], ?_, by show 4 ≤ 15; decide, ?_⟩
    · simp [wK, hT]
    · refine ⟨[j, T.length + 1, T.length + 1 + 1], SB ⟨cs, (cs.filter fun a => decide ((10 : Int) ^ 18 ≤ if a < 0 then -a else a)).map fun a => if a < 0 then -a else a, 0, 0⟩ [], .ref 2, rfl, fun i h => absurd h (Nat.not_lt_zero _), by simp; omega, ?_, rfl, rfl, q _ ⟨c0, c1, ?_, ?_, Int.le_refl 0, Int.le_refl 0⟩⟩
      · intro i o ho
        match i, ho with
        | 0, ho =>
          cases Option.some.inj ho
          refine ⟨bndL_ints _ _, j, rfl, ?_⟩
          show _ = some (O.lst (W.renL _ _))
          rw [renL_pure _ _ (pureL_ints _), ← List.cons_append]
          exact get_old hS
        | 1, ho =>
          cases Option.some.inj ho
          refine ⟨bndL_ints _ _, T.length + 1, rfl, ?_⟩
          show _ = some (O.lst (W.renL _ _))
          rw [renL_pure _ _ (pureL_ints _), List.getElem?_cons_succ, get_app0, List.map_map]
          rfl
        | 2, ho =>
          cases Option.some.inj ho
          refine ⟨rfl, T.length + 1 + 1, rfl, ?_⟩
          rw [List.getElem?_cons_succ, get_app, hT]
          rfl
        | k + 3, ho => cases ho
      · show (List.map _ _).length ≤ 63
        rw [List.length_map]
        exact Nat.le_trans (List.length_filter_le _ _) c1
      · intro x hx
        obtain ⟨a, _, rfl⟩ := List.mem_map.mp hx
        split <;> omega
/-! ### _law_pool -/
def jj (k : Nat) : Str := Str.ofString "jj" ++ Str.ofString (toString ((k : Nat) : Int))
theorem tl_jj (k : Nat) : tl (jj k) = 106 :: 106 :: numL k := by
  unfold jj
  rw [tl_append, tl_num]
  rfl
def OkS (x : Str) : Prop := x.length ≤ 20 ∧ PyData.strOk x = true
def NmA (x : Str) : Prop := (∃ c, (tl x).getLast? = some c ∧ 97 ≤ c) ∨ (tl x).length = 2
theorem jj_new {names : List Str} {i : Nat} (h : ∀ x ∈ names, NmA x ∨ ∃ k, k < i ∧ x = jj k) : jj i ∉ names := by
  intro hm
  have hne := numL_ne i
  rcases h _ hm with (⟨c, hc, c0⟩ | hc) | ⟨k, hk, e⟩
  · rw [tl_jj] at hc
    have e : (106 :: 106 :: numL i).getLast? = (numL i).getLast? := by
      cases hn : numL i with
      | nil => exact absurd hn hne
      | cons a l => rfl
    rw [e] at hc
    have := (numL_digits i c (List.mem_of_getLast? hc)).2
    omega
  · rw [tl_jj] at hc
    have := List.length_pos_iff.mpr hne
    rw [List.length_cons, List.length_cons] at hc
    omega
  · have e2 := congrArg tl e
    rw [tl_jj, tl_jj] at e2
    have := numL_inj (List.cons.inj (List.cons.inj e2).2).2
    omega
theorem jj_ok {k : Nat} (h : k < 100) : OkS (jj k) := by
  refine ⟨?_, ?_⟩
  · unfold jj
    rw [len_app]
    have := len_num (n := k) (k := 2) (by decide) h
    have e : (Str.ofString "jj").length = 2 := by decide
    omega
  · unfold jj
    exact ok_app (by decide +kernel) (ok_num k)
def F_pool : DSpec := fun ws S Q => ∃ st R, ws = [.ref 2, .int 12] ∧ S = SB st R ∧ Good st ∧ ∀ st' names, Good st' → names.Nodup → names.length = 12 → (∀ x ∈ names, OkS x) → Q (.ref (R.length + 1 + 1 + 1)) (SB st' (R ++ [stro names]))
theorem vc_pool : ∀ ws S Q, Closed S → F_pool ws S Q → d_law_pool F_draw (endsW S.length Q) (startW N_law_pool.length ws) S := by
  rintro ws S Q cl ⟨st, R, rfl, rfl, g, q⟩
  show d_law_pool F_draw _ [some (.ref 2), some (.int 12), none, none, none, none] _
  unfold d_law_pool
  walk_at "dl"
  refine ⟨by decide, by decide, ?_⟩
  have hS : ∀ (st2 : Src) (names : List Str), (SB st2 (R ++ [stro names]))[R.length + 1 + 1 + 1]? = some (stro names) := fun st2 names => get_app0
  refine forW_inv (fun i e s => ∃ st2 names x4 x5, e = [some (.ref 2), some (.int 12), some (.str (Str.ofString "abcdefghijklmnopqrstuvwxyz")), some (.ref (R.length + 1 + 1 + 1)), x4, x5] ∧ s = SB st2 (R ++ [stro names]) ∧ Good st2 ∧ names.Nodup ∧ names.length = i ∧ (∀ x ∈ names, OkS x) ∧ ∀ x ∈ names, NmA x ∨ ∃ k, k < i ∧ x = jj k)
    ⟨st, [], _, _, rfl, rfl, g, List.nodup_nil, rfl, by simp, by simp⟩ ?_ ?_
  · rintro i x e s hx ⟨st2, names, x4, x5, rfl, rfl, g2, hnd, hlen, hok, hA⟩ N hN
    obtain ⟨hi, rfl⟩ := rng_get hx
    have hi : i < 12 := hi
    refine ⟨trivial, ?_⟩
    rw [e_nm]
    refine seqI (fun e s => ∃ st3 wd, Good st3 ∧ OkS wd ∧ NmA wd ∧ e = [some (.ref 2), some (.int 12), some (.str (Str.ofString "abcdefghijklmnopqrstuvwxyz")), some (.ref (R.length + 1 + 1 + 1)), some (.int (i : Int)), some (.str wd)] ∧ s = SB st3 (R ++ [stro names])) (fun N2 hN2 => ?_) ?_
    · walk_at "dl"
      refine draw_ok g2 (by decide) (by decide) fun st3 r g3 r0 r1 => ?_
      obtain ⟨c, c0, c1, hc⟩ := abc_at r0 r1
      rw [e_ixAS hc]
      refine ⟨abc_len, ?_⟩
      refine draw_ok g3 (by decide) (by decide) fun st4 r4 g4 r40 r41 => ?_
      walk_at "dl"
      obtain ⟨n4, rfl⟩ : ∃ n : Nat, r4 = (n : Int) := ⟨r4.toNat, by omega⟩
      have hn4 : n4 < 10 := by omega
      have l4 := len_num (n := n4) (k := 1) (by decide) (by omega)
      exact ⟨log_str (by omega) (by omega), le_sz (by rw [len_one]; omega), hN2 _ _ ⟨st4, _, g4, ⟨by rw [len_app, len_one]; omega, ok_app (ok_one (by omega)) (ok_num _)⟩, .inr (by rw [tl_append, tl_num, numL_lt hn4]; rfl), rfl, rfl⟩⟩
    rintro e s ⟨st3, wd, g3, w1, w2, rfl, rfl⟩
    refine seqI (fun e s => ∃ st3 wd, Good st3 ∧ OkS wd ∧ NmA wd ∧ e = [some (.ref 2), some (.int 12), some (.str (Str.ofString "abcdefghijklmnopqrstuvwxyz")), some (.ref (R.length + 1 + 1 + 1)), some (.int (i : Int)), some (.str wd)] ∧ s = SB st3 (R ++ [stro names])) (fun N2 hN2 => ?_) ?_
    · walk_at "dl"
      split
      · rename_i hl0
        refine draw_ok g3 (by decide) (by decide) fun st4 r4 g4 r40 r41 => ?_
        walk_at "dl"
        split
        · refine draw_ok (many := (names.length : Int)) g4 (by omega) (by omega) fun st5 r5 g5 r50 r51 => ?_
          obtain ⟨x, hx1, _, hx2⟩ := at_map (f := W.str) (xs := names) r50 r51
          rw [e_ixAL (hS _ _) hx2]
          have okx := hok x hx1
          have okc : PyData.strOk (cutS x none (some 6)) = true := ok_cut okx.2 6
          have hl6 : (cutS x none (some 6)).length ≤ 6 := by
            rw [len_tl, show (6 : Int) = ((6 : Nat) : Int) from rfl, tl_cutTo, List.length_take]
            omega
          walk_at "dl"
          refine ⟨le_sz (by have := okx.1; omega), ?_⟩
          refine draw_ok g5 (by decide) (by decide) fun st6 r6 g6 r60 r61 => ?_
          obtain ⟨c, c0, c1, hc⟩ := abc_at r60 r61
          rw [e_ixAS hc]
          refine ⟨abc_len, ?_⟩
          walk_at "dl"
          exact ⟨le_sz (by rw [len_one]; omega), hN2 _ _ ⟨st6, _, g6, ⟨by rw [len_app, len_one]; omega, ok_app okc (ok_one (by omega))⟩, .inl ⟨c, by rw [tl_append]; exact List.getLast?_concat .., c0⟩, rfl, rfl⟩⟩
        · exact hN2 _ _ ⟨st4, wd, g4, w1, w2, rfl, rfl⟩
      · exact hN2 _ _ ⟨st3, wd, g3, w1, w2, rfl, rfl⟩
    rintro e s ⟨st4, wd2, g4, w3, w4, rfl, rfl⟩
    walk_at "dl"
    have hl : names.length < sizeLine := lt_sz (by omega)
    have app : ∀ x : Str, (NmA x ∨ x = jj i) → OkS x → x ∉ names → N [some (.ref 2), some (.int 12), some (.str (Str.ofString "abcdefghijklmnopqrstuvwxyz")), some (.ref (R.length + 1 + 1 + 1)), some (.int (i : Int)), some (.str wd2)] (SB st4 (R ++ [.lst (names.map W.str ++ [.str x])])) := by
      intro x hx ho hn
      refine hN _ _ ⟨st4, names ++ [x], _, _, rfl, ?_, g4, ?_, by simp [hlen], ?_, ?_⟩
      · unfold stro
        rw [List.map_append]
        rfl
      · exact List.nodup_append.mpr ⟨hnd, by simp, fun a ha b hb e => by rw [List.mem_singleton.mp hb] at e; exact hn (e ▸ ha)⟩
      · intro y hy
        rcases List.mem_append.mp hy with h | h
        · exact hok y h
        · rw [List.mem_singleton.mp h]; exact ho
      · intro y hy
        rcases List.mem_append.mp hy with h | h
        · exact (hA y h).imp id fun ⟨k, hk, e⟩ => ⟨k, by omega, e⟩
        · rw [List.mem_singleton.mp h]
          exact hx.imp id fun e => ⟨i, by omega, e⟩
    refine ⟨rfl, flW_strs _, ?_⟩
    rw [inW_strs]
    split
    · rename_i hw
      exact ⟨hl, app wd2 (.inl w4) w3 (of_decide_eq_false hw)⟩
    · refine ⟨log_str (by omega) (by omega), ?_, hl, app (jj i) (.inr rfl) (jj_ok (by omega)) (jj_new hA)⟩
      have := (jj_ok (k := i) (by omega)).1
      unfold jj at this
      rw [len_app] at this
      exact le_sz (by omega)
  · rintro e s ⟨st2, names, x4, x5, rfl, rfl, g2, hnd, hlen, hok, hA⟩
    refine ⟨trivial, ?_⟩
    walk_at "dl"
    exact endSL (k := 0) cl rfl rfl (pureL_strs _) (q st2 names g2 hnd hlen hok)
/-! ### _law_pool_values -/

end K25

namespace K25
open PySem PySem.Spec PyProof.Rows L2 TL DL
local macro_rules | `(tactic| walk_at "dl") => `(tactic| try simp (config := { decide := false }) only [e_seq, e_asg, e_nm, e_op, e_un, e_cb, e_c, e_var, e_ifs, e_tru, e_B, e_drop, e_bm, e_bm0, e_ret, e_retN, e_next, e_break, e_cont, e_nil, e_cons, e_tup, e_lst, e_sl, e_onone, e_osome, e_gsub, e_call, e_callk, e_and, e_or, e_not, e_andv, e_orv, e_notv, e_notU, e_isI, e_isS, e_isT, e_isR, e_isN, e_if, e_par, e_for, e_comp, e_iseq, e_rng1, e_rng3, e_zip, e_dictC, e_sc2, e_iseqF, e_yes, e_dictN, src_cells, src_great, src_rest, src_count, src_putR, src_putC, src_len, sz4l, e_nget1, e_nget2, e_lockN, e_dictCN, e_disp, e_ap0, e_ap1, e_gtp, e_gc, e_gn0,
  e_addI, e_addS, e_addT, e_addL, e_i20, e_i2, e_neg, e_cmpI, e_cmpS, e_eqI, e_eqS, e_eqB, e_ixT, e_ixLit, e_ixL, e_ixS, e_set, e_ixAT, e_ixALit, e_ixAL, e_ixAS, e_ixAD, e_setAL, e_setAD, e_dict0, e_inAL, e_inAT, e_inAD, e_inAS, e_listAT, e_listALit, e_listAL, e_listAD, e_max2, e_extend, e_isalpha, e_enum, keyW, sz0, sz1, sz2, sz3, sz4, sz5, sz6, O.dk.injEq, e_slT, e_slLit, e_slS, e_slL, e_lenAS, e_lenAT, e_lenALit, e_lenAL, e_lenAD, e_lenS, e_lenT, e_lenLit, e_lenL, e_i1, e_intI, e_intB, e_strI, e_strS, e_listT, e_listLit, e_listL, e_tupleT, e_tupleL, e_append, e_pop0, e_tyL, e_tyS, e_truL, e_truT, e_truB, e_truI, e_truS, e_truN, e_seqT, e_seqLit, e_seqL, e_in, e_inT, e_isi, kit_ll, kit_ss, kit_tt, kit_ii, kit_ib, tyW_L, tyW_S, tyW_T, tyW_I, tyW_B, cut_to1, cut_to2, cut_from1, wipeW_nil, wipeW_cons, Nat.reduceAdd, eq_self, List.map_cons, List.map_nil,
  atI_0, atI_1, atI_2, atI_3, atI_4, atI_5, atI_end, ixN_0, ixN_1, ixN_11, ixN_last, List.map_append, List.map_cons, List.map_nil, get_app, get_app0, set_app, set_app0, List.cons_append, List.nil_append, List.append_assoc, List.length_append, List.length_cons, List.length_nil, Nat.zero_add, List.length_map, List.length_set,
  List.getElem?_cons_zero, List.getElem?_cons_succ, List.set_cons_zero, List.set_cons_succ, Option.some.injEq, exists_eq_left', exists_eq_left, exists_and_left, W.int.injEq, W.bl.injEq, W.str.injEq, W.tup.injEq, W.ref.injEq, O.lst.injEq, List.cons.injEq, reduceCtorEq, false_and, exists_false, or_false, false_or, true_and, and_true, decide_eq_true_eq, Bool.false_xor, Bool.true_xor, Bool.not_eq_true', decide_eq_false_iff_not, List.isEmpty_cons, List.isEmpty_nil, Bool.not_true, Bool.not_false, if_true, if_false, not_true_eq_false, not_false_eq_true, ne_eq, Bool.false_eq_true, reduceIte])



/-! ### _law_pool_values -/
abbrev iLst (xs : List Int) : O := .lst (xs.map W.int)
def F_pvals : DSpec := fun ws S Q => ∃ st R, ws = [.ref 2] ∧ S = SB st R ∧ Good st ∧ ∀ st' vals, Good st' → 0 < vals.length → vals.length ≤ 20 → Q (.ref (R.length + 1 + 1 + 1)) (SB st' (R ++ [iLst vals]))
theorem cp : ∀ n : Int, 0 ≤ n → n ≤ 1000000 → CPow 10 n := fun n h0 h1 => ⟨h0, h1, by decide⟩
theorem flW_ints (xs : List Int) : (xs.map W.int).all flW = true := by
  rw [List.all_map]
  exact List.all_eq_true.mpr fun _ _ => rfl
theorem sz12 : 12 ≤ sizeLine := by decide
theorem c_c {w : DL.W} {dr : DA} {env : Slots} {S : Sto} {Q : List DL.W → Sto → Prop} (k : dr env S fun ws S2 => Q (w :: ws) S2) : aCons (dC w) dr env S Q := k
theorem c_pow {a b : Int} {dr : DA} {env : Slots} {S : Sto} {Q : List DL.W → Sto → Prop} (h : CPow a b) (k : ∀ v : Int, dr env S fun ws S2 => Q (.int v :: ws) S2) : aCons (dOp vPow (dC (.int a)) (dC (.int b))) dr env S Q := ⟨h, k _⟩
theorem c_pows {a b c : Int} {dr : DA} {env : Slots} {S : Sto} {Q : List DL.W → Sto → Prop} (h : CPow a b) (k : ∀ v : Int, dr env S fun ws S2 => Q (.int v :: ws) S2) : aCons (dOp vSub (dOp vPow (dC (.int a)) (dC (.int b))) (dC (.int c))) dr env S Q := ⟨h, k _⟩
theorem c_gen {st : Src} {R : Sto} {da : DE} {dr : DA} {env : Slots} {Q : List DL.W → Sto → Prop} (h : ∀ K : DL.W → Sto → Prop, (∀ (v : Int) st', Good st' → K (.int v) (SB st' R)) → da env (SB st R) K) (k : ∀ (v : Int) st', Good st' → dr env (SB st' R) fun ws S2 => Q (.int v :: ws) S2) : aCons da dr env (SB st R) Q := h _ k
theorem draw6 {st : Src} {R : Sto} {r : Slots} (g : Good st) (K : DL.W → Sto → Prop) (k : ∀ (v : Int) st', Good st' → K (.int v) (SB st' R)) : dCall F_draw (aCons (dVar 0) (aCons (dOp vPow (dC (.int 10)) (dC (.int 6))) aNil)) (some (.ref 2) :: r) (SB st R) K := by
  walk_at "dl"
  exact ⟨cp _ (by decide) (by decide), draw_ok g (by decide) (by decide) fun st2 r g2 _ _ => k r st2 g2⟩
theorem vc_pvals : ∀ ws S Q, Closed S → F_pvals ws S Q → d_law_pool_values F_draw F_mix (endsW S.length Q) (startW N_law_pool_values.length ws) S := by
  rintro ws S Q cl ⟨st, R, rfl, rfl, g, q⟩
  show d_law_pool_values F_draw F_mix _ [some (.ref 2), none, none, none] _
  unfold d_law_pool_values
  refine seqI (fun e s => ∃ st2 base, Good st2 ∧ base.length = 12 ∧ e = [some (.ref 2), some (.ref (R.length + 1 + 1 + 1)), none, none] ∧ s = SB st2 (R ++ [iLst base])) (fun N hN => ?_) ?_
  · rw [e_asg, e_lst]
    refine c_c ?_
    refine c_c ?_
    refine c_c ?_
    refine c_c ?_
    refine c_c ?_
    refine c_c ?_
    refine c_c ?_
    refine c_c ?_
    refine c_pow (cp _ (by decide) (by decide)) fun v1 => ?_
    refine c_pows (cp _ (by decide) (by decide)) fun v2 => ?_
    refine c_gen (draw6 g) fun v3 st3 g3 => ?_
    refine c_gen (fun K k => ?_) fun v4 st4 g4 => ?_
    · rw [e_op, e_op]
      refine draw6 g3 _ fun v st5 g5 => ?_
      walk_at "dl"
      exact ⟨cp _ (by decide) (by decide), cmulS (by decide) (by decide), k _ _ g5⟩
    · exact ⟨sz12, hN _ _ ⟨st4, [0, 1, 2, 9, 10, 11, 99, 100, v1, v2, v3, v4], g4, rfl, rfl, rfl⟩⟩
  rintro e s ⟨st2, base, g2, hb, rfl, rfl⟩
  walk_at "dl"
  refine mix_ok (us := base.map W.int) g2 (.inr ⟨R.length, rfl, get_app0⟩) (pureL_ints _) (by rw [List.length_map]; omega) fun st3 vs g3 hperm => ?_
  obtain ⟨zs, rfl, hz⟩ := perm_map_inv hperm base rfl
  have hzl := hz.length_eq
  refine draw_ok g3 (by decide) (by decide) fun st4 r g4 r0 r1 => ?_
  obtain ⟨k, hk⟩ : ∃ k : Nat, 3 + r = (k : Int) := ⟨(3 + r).toNat, by omega⟩
  walk_at "dl"
  rw [hk]
  rw [cut_to, ← List.map_take]
  have hS : ∀ (st5 : Src) (out : List Int), (SB st5 (R ++ [iLst base, iLst out, iLst zs, iLst (zs.take k)]))[R.length + 3 + 1 + 1 + 1]? = some (iLst (zs.take k)) := fun st5 out => by
    show (R ++ _)[R.length + 3]? = _
    exact get_app
  have hO : ∀ (st5 : Src) (out : List Int), (SB st5 (R ++ [iLst base, iLst out, iLst zs, iLst (zs.take k)]))[R.length + 1 + 1 + 1 + 1]? = some (iLst out) := fun st5 out => by
    show (R ++ _)[R.length + 1]? = _
    exact get_app
  refine forW_inv (fun i e s => ∃ out x3, e = [some (.ref 2), some (.ref (R.length + 1 + 1 + 1)), some (.ref (R.length + 1 + 1 + 1 + 1)), x3] ∧ s = SB st4 (R ++ [iLst base, iLst out, iLst zs, iLst (zs.take k)]) ∧ out.length ≤ i ∧ (0 < i → 0 < out.length)) ⟨[], none, rfl, rfl, Nat.le_refl _, fun h => absurd h (Nat.lt_irrefl _)⟩ ?_ ?_
  · rintro i x e s hx ⟨out, x3, rfl, rfl, hl, h0⟩ N hN
    obtain ⟨a, ha, rfl, hm, hi⟩ := map_get hx
    rw [List.length_take] at hi
    refine ⟨hS _ _, ?_⟩
    walk_at "dl"
    refine ⟨rfl, flW_ints _, ?_⟩
    split
    · refine ⟨lt_sz (by omega), hN _ _ ⟨out ++ [a], _, rfl, ?_, by simp; omega, fun _ => by simp⟩⟩
      unfold iLst
      rw [List.map_append]
      rfl
    · rename_i hw
      refine hN _ _ ⟨out, _, rfl, rfl, by omega, fun _ => ?_⟩
      cases out with
      | nil => exact absurd rfl hw
      | cons b out => exact Nat.zero_lt_succ _
  · rintro e s ⟨out, x3, rfl, rfl, hl, h0⟩
    rw [List.length_map, List.length_take] at hl h0
    refine ⟨hS _ _, ?_⟩
    walk_at "dl"
    exact endSL (k := 1) cl rfl rfl (pureL_ints _) (q st4 out g4 (h0 (by omega)) (by omega))

end K25

namespace K25
open PySem PySem.Spec PyProof.Rows L2 TL DL
local macro_rules | `(tactic| walk_at "dl") => `(tactic| try simp (config := { decide := false }) only [e_seq, e_asg, e_nm, e_op, e_un, e_cb, e_c, e_var, e_ifs, e_tru, e_B, e_drop, e_bm, e_bm0, e_ret, e_retN, e_next, e_break, e_cont, e_nil, e_cons, e_tup, e_lst, e_sl, e_onone, e_osome, e_gsub, e_call, e_callk, e_and, e_or, e_not, e_andv, e_orv, e_notv, e_notU, e_isI, e_isS, e_isT, e_isR, e_isN, e_if, e_par, e_for, e_comp, e_iseq, e_rng1, e_rng3, e_zip, e_dictC, e_sc2, e_iseqF, e_yes, e_dictN, src_cells, src_great, src_rest, src_count, src_putR, src_putC, src_len, sz4l, e_nget1, e_nget2, e_lockN, e_dictCN, e_disp, e_ap0, e_ap1, e_gtp, e_gc, e_gn0,
  e_addI, e_addS, e_addT, e_addL, e_i20, e_i2, e_neg, e_cmpI, e_cmpS, e_eqI, e_eqS, e_eqB, e_ixT, e_ixLit, e_ixL, e_ixS, e_set, e_ixAT, e_ixALit, e_ixAL, e_ixAS, e_ixAD, e_setAL, e_setAD, e_dict0, e_inAL, e_inAT, e_inAD, e_inAS, e_listAT, e_listALit, e_listAL, e_listAD, e_max2, e_extend, e_isalpha, e_enum, keyW, sz0, sz1, sz2, sz3, sz4, sz5, sz6, O.dk.injEq, e_slT, e_slLit, e_slS, e_slL, e_lenAS, e_lenAT, e_lenALit, e_lenAL, e_lenAD, e_lenS, e_lenT, e_lenLit, e_lenL, e_i1, e_intI, e_intB, e_strI, e_strS, e_listT, e_listLit, e_listL, e_tupleT, e_tupleL, e_append, e_pop0, e_tyL, e_tyS, e_truL, e_truT, e_truB, e_truI, e_truS, e_truN, e_seqT, e_seqLit, e_seqL, e_in, e_inT, e_isi, kit_ll, kit_ss, kit_tt, kit_ii, kit_ib, tyW_L, tyW_S, tyW_T, tyW_I, tyW_B, cut_to1, cut_to2, cut_from1, wipeW_nil, wipeW_cons, Nat.reduceAdd, eq_self, List.map_cons, List.map_nil,
  atI_0, atI_1, atI_2, atI_3, atI_4, atI_5, atI_end, ixN_0, ixN_1, ixN_11, ixN_last, List.map_append, List.map_cons, List.map_nil, get_app, get_app0, set_app, set_app0, List.cons_append, List.nil_append, List.append_assoc, List.length_append, List.length_cons, List.length_nil, Nat.zero_add, List.length_map, List.length_set,
  List.getElem?_cons_zero, List.getElem?_cons_succ, List.set_cons_zero, List.set_cons_succ, Option.some.injEq, exists_eq_left', exists_eq_left, exists_and_left, W.int.injEq, W.bl.injEq, W.str.injEq, W.tup.injEq, W.ref.injEq, O.lst.injEq, List.cons.injEq, reduceCtorEq, false_and, exists_false, or_false, false_or, true_and, and_true, decide_eq_true_eq, Bool.false_xor, Bool.true_xor, Bool.not_eq_true', decide_eq_false_iff_not, List.isEmpty_cons, List.isEmpty_nil, Bool.not_true, Bool.not_false, if_true, if_false, not_true_eq_false, not_false_eq_true, ne_eq, Bool.false_eq_true, reduceIte])



/-! ### comprehensions that draw -/
section
variable {α : Type} {f h : α → DL.W} {xs : List α} {i : Nat} {tt : DT} {te : DE} {vs : List Nat} {still : Sto → Prop} {env : Slots} {Q : WK} {R : Sto} {st : Src}
theorem compDrF (stl : ∀ st', still (SB st' R)) (hl : xs.length ≤ 99998) (g : Good st)
    (he : ∀ a ∈ xs, ∀ st, Good st → ∀ N : Bool → DL.W → Sto → Prop, (∀ b st', Good st' → N b (h a) (SB st' R)) → tt ((wipeW env vs).set i (some (f a))) (SB st R) fun b S3 => if b = true then te ((wipeW env vs).set i (some (f a))) S3 fun y S4 => N true y S4 else N false (h a) S3)
    (q : ∀ st' (ys : List α), Good st' → ys.Sublist xs → Q (.ref (SB st' R).length) (SB st' R ++ [.lst (ys.map h)])) : compW (gNm i) tt te vs still env Q (xs.map f) [] (SB st R) := by
  refine compW_inv (fun k acc S' => ∃ (st2 : Src) (ys : List α), S' = SB st2 R ∧ Good st2 ∧ ys.Sublist (xs.take k) ∧ acc = ys.map h) ⟨st, [], rfl, g, List.nil_sublist _, rfl⟩ ?_ ?_
  · rintro k x acc S' hx ⟨st2, ys, rfl, g2, hs, rfl⟩ N hN
    obtain ⟨a, ha, rfl, hm, hk⟩ := map_get hx
    refine ⟨stl _, ?_⟩
    show tt _ _ _
    have hlen : (ys.map h).length < sizeLine := by
      refine lt_sz ?_
      rw [List.length_map]
      have := hs.length_le
      rw [List.length_take] at this
      omega
    have z := he a hm st2 g2 (fun b y S4 => if b = true then (ys.map h).length < sizeLine ∧ N (ys.map h ++ [y]) S4 else N (ys.map h) S4) fun b st' g' => by
      cases b with
      | true =>
        rw [if_pos rfl]
        refine ⟨hlen, hN _ _ ⟨st', ys ++ [a], rfl, g', ?_, by rw [List.map_append]; rfl⟩⟩
        rw [take_snoc ha]
        exact List.Sublist.append hs (List.Sublist.refl _)
      | false =>
        rw [if_neg Bool.false_ne_true]
        refine hN _ _ ⟨st', ys, rfl, g', ?_, rfl⟩
        rw [take_snoc ha]
        exact List.Sublist.trans hs (List.sublist_append_left _ _)
    simpa only [if_true, Bool.false_eq_true, if_false] using z
  · rintro acc S' ⟨st2, ys, rfl, g2, hs, rfl⟩
    rw [List.length_map, List.take_length] at hs
    exact ⟨stl _, q st2 ys g2 hs⟩
theorem compDrN {P : α → DL.W → Prop} (stl : ∀ st', still (SB st' R)) (hl : xs.length ≤ 99998) (g : Good st)
    (he : ∀ a ∈ xs, ∀ st, Good st → ∀ N : DL.W → Sto → Prop, (∀ w st', Good st' → P a w → N w (SB st' R)) → te ((wipeW env vs).set i (some (f a))) (SB st R) N)
    (q : ∀ st' (ws : List DL.W), Good st' → ws.length = xs.length → (∀ (i : Nat) (a : α) (w : DL.W), xs[i]? = some a → ws[i]? = some w → P a w) → Q (.ref (SB st' R).length) (SB st' R ++ [.lst ws])) : compW (gNm i) dYes te vs still env Q (xs.map f) [] (SB st R) := by
  refine compW_inv (fun k acc S' => ∃ st2, S' = SB st2 R ∧ Good st2 ∧ acc.length = k ∧ ∀ (i : Nat) (a : α) (w : DL.W), xs[i]? = some a → acc[i]? = some w → P a w) ⟨st, rfl, g, rfl, fun _ _ _ _ h => by simp at h⟩ ?_ ?_
  · rintro k x acc S' hx ⟨st2, rfl, g2, hl2, hp⟩ N hN
    obtain ⟨a, ha, rfl, hm, hk⟩ := map_get hx
    refine ⟨stl _, ?_⟩
    show te _ _ _
    refine he a hm st2 g2 _ fun w st' g' hw => ⟨lt_sz (by omega), hN _ _ ⟨st', rfl, g', by simp [hl2], fun i b w' hb hw' => ?_⟩⟩
    by_cases hi : i < acc.length
    · rw [List.getElem?_append_left hi] at hw'
      exact hp i b w' hb hw'
    · have e : i = acc.length := by
        have := (List.getElem?_eq_some_iff.mp hw').1
        rw [List.length_append, List.length_cons, List.length_nil] at this
        omega
      subst e
      rw [get_app0] at hw'
      cases Option.some.inj hw'
      rw [hl2, ha] at hb
      cases Option.some.inj hb
      exact hw
  · rintro acc S' ⟨st2, rfl, g2, hl2, hp⟩
    rw [List.length_map] at hl2
    exact ⟨stl _, q st2 acc g2 hl2 hp⟩
end
theorem ints_of : ∀ {ws : List DL.W}, (∀ w ∈ ws, ∃ v : Int, w = .int v) → ∃ vs : List Int, ws = vs.map W.int
  | [], _ => ⟨[], rfl⟩
  | w :: ws, h => by
    obtain ⟨v, rfl⟩ := h w (List.mem_cons_self ..)
    obtain ⟨vs, rfl⟩ := ints_of fun x hx => h x (List.mem_cons_of_mem _ hx)
    exact ⟨v :: vs, rfl⟩
theorem ints_of_at {α : Type} {xs : List α} {ws : List DL.W} (hl : ws.length = xs.length) (h : ∀ (i : Nat) (a : α) (w : DL.W), xs[i]? = some a → ws[i]? = some w → ∃ v : Int, w = .int v) : ∃ vs : List Int, ws = vs.map W.int ∧ vs.length = xs.length := by
  obtain ⟨vs, e⟩ := ints_of (ws := ws) fun w hw => by
    obtain ⟨i, hi⟩ := List.getElem?_of_mem hw
    have hlt := (List.getElem?_eq_some_iff.mp hi).1
    exact h i _ w (List.getElem?_eq_getElem (by omega)) hi
  subst e
  rw [List.length_map] at hl
  exact ⟨vs, rfl, hl⟩
/-! ### what a house is made of -/
structure Door where
  name : Str
  table : Str
  cols : List Nat
  one : Bool
abbrev Tab := Str × Nat
def kindS (b : Bool) : Str := if b then Str.ofString "one" else Str.ofString "all"
abbrev colsW (cs : List Nat) : List DL.W := cs.map fun c : Nat => W.int (c : Int)
abbrev doorW (d : Door) : DL.W := .tup [.str d.name, .str d.table, .tup (colsW d.cols), .str (kindS d.one)]
abbrev tabW (t : Tab) : DL.W := .tup [.str t.1, .int (t.2 : Int)]
abbrev houseW (ts : List Tab) (x1 : DL.W) (ds : List Door) (x3 x4 : DL.W) : DL.W := .tup [.tup (ts.map tabW), x1, .tup (ds.map doorW), x3, x4, .tup []]
structure OkDoor (ts : List Tab) (d : Door) : Prop where
  name : PyData.strOk d.name = true
  len : d.cols.length ≤ 4
  tab : ∃ t ∈ ts, t.1 = d.table ∧ ∀ c ∈ d.cols, c < t.2
structure OkTabs (ts : List Tab) : Prop where
  t1 : 0 < ts.length
  t4 : ts.length ≤ 4
  nd : (ts.map (·.1)).Nodup
  w : ∀ t ∈ ts, 1 ≤ t.2 ∧ t.2 ≤ 4 ∧ PyData.strOk t.1 = true
structure OkHouse (ts : List Tab) (ds : List Door) : Prop where
  tabs : OkTabs ts
  d1 : 0 < ds.length
  d8 : ds.length ≤ 8
  nd : (ds.map (·.name)).Nodup
  ok : ∀ d ∈ ds, OkDoor ts d
  asc : (ds.map doorW).Pairwise fun a b => leW a b = true
theorem tab_uniq {ts : List Tab} (nd : (ts.map (·.1)).Nodup) {t u : Tab} (ht : t ∈ ts) (hu : u ∈ ts) (e : t.1 = u.1) : t = u := by
  induction ts with
  | nil => cases ht
  | cons x ts ih =>
    rw [List.map_cons, List.nodup_cons] at nd
    rcases List.mem_cons.mp ht with e1 | ht1
    · rcases List.mem_cons.mp hu with e2 | hu1
      · rw [e1, e2]
      · exact absurd (show x.1 ∈ ts.map (·.1) by rw [← e1, e]; exact List.mem_map_of_mem hu1) nd.1
    · rcases List.mem_cons.mp hu with e2 | hu1
      · exact absurd (show x.1 ∈ ts.map (·.1) by rw [← e2, ← e]; exact List.mem_map_of_mem ht1) nd.1
      · exact ih nd.2 ht1 hu1
theorem kind_ok (b : Bool) : PyData.strOk (kindS b) = true := by cases b <;> decide +kernel
theorem door_std {d : Door} (h1 : PyData.strOk d.name = true) (h2 : PyData.strOk d.table = true) : (doorW d).std = true := by
  have e : W.stdL (colsW d.cols) = true := (stdL_iff _).mpr fun w hw => by
    obtain ⟨i, _, rfl⟩ := List.mem_map.mp hw
    rfl
  show (PyData.strOk d.name && (PyData.strOk d.table && (W.stdL (colsW d.cols) && (PyData.strOk (kindS d.one) && true)))) = true
  rw [h1, h2, e, kind_ok]
  rfl
abbrev doorKd : Kd := .cons .s (.cons .s (.cons (.seq .i) (.cons .s .nil)))
theorem door_isK (d : Door) : IsK doorKd (doorW d) :=
  ⟨_, _, rfl, ⟨_, rfl⟩, _, _, rfl, ⟨_, rfl⟩, _, _, rfl, ⟨_, rfl, fun u hu => by
    obtain ⟨i, _, rfl⟩ := List.mem_map.mp hu
    exact ⟨_, rfl⟩⟩, _, _, rfl, ⟨_, rfl⟩, rfl⟩
theorem pureL_cols (cs : List Nat) : W.pureL (colsW cs) = true := pureL_of fun w hw => by
  obtain ⟨i, _, rfl⟩ := List.mem_map.mp hw
  rfl
theorem pureL_doors (ds : List Door) : W.pureL (ds.map doorW) = true := pureL_of fun w hw => by
  obtain ⟨d, _, rfl⟩ := List.mem_map.mp hw
  show (true && (true && (W.pureL (colsW d.cols) && (true && true)))) = true
  rw [pureL_cols]
  rfl
theorem pureL_tabs (ts : List Tab) : W.pureL (ts.map tabW) = true := pureL_of fun w hw => by
  obtain ⟨d, _, rfl⟩ := List.mem_map.mp hw
  rfl
theorem house_pure {ts : List Tab} {ds : List Door} {x1 x3 x4 : DL.W} (h1 : x1.pure = true) (h3 : x3.pure = true) (h4 : x4.pure = true) : (houseW ts x1 ds x3 x4).pure = true := by
  show (W.pureL (ts.map tabW) && (x1.pure && (W.pureL (ds.map doorW) && (x3.pure && (x4.pure && (true && true)))))) = true
  rw [pureL_tabs, pureL_doors, h1, h3, h4]
  rfl

end K25

namespace K25
open PySem PySem.Spec PyProof.Rows L2 TL DL
local macro_rules | `(tactic| walk_at "dl") => `(tactic| try simp (config := { decide := false }) only [e_seq, e_asg, e_nm, e_op, e_un, e_cb, e_c, e_var, e_ifs, e_tru, e_B, e_drop, e_bm, e_bm0, e_ret, e_retN, e_next, e_break, e_cont, e_nil, e_cons, e_tup, e_lst, e_sl, e_onone, e_osome, e_gsub, e_call, e_callk, e_and, e_or, e_not, e_andv, e_orv, e_notv, e_notU, e_isI, e_isS, e_isT, e_isR, e_isN, e_if, e_par, e_for, e_comp, e_iseq, e_rng1, e_rng3, e_zip, e_dictC, e_sc2, e_iseqF, e_yes, e_dictN, src_cells, src_great, src_rest, src_count, src_putR, src_putC, src_len, sz4l, e_nget1, e_nget2, e_lockN, e_dictCN, e_disp, e_ap0, e_ap1, e_gtp, e_gc, e_gn0,
  e_addI, e_addS, e_addT, e_addL, e_i20, e_i2, e_neg, e_cmpI, e_cmpS, e_eqI, e_eqS, e_eqB, e_ixT, e_ixLit, e_ixL, e_ixS, e_set, e_ixAT, e_ixALit, e_ixAL, e_ixAS, e_ixAD, e_setAL, e_setAD, e_dict0, e_inAL, e_inAT, e_inAD, e_inAS, e_listAT, e_listALit, e_listAL, e_listAD, e_max2, e_extend, e_isalpha, e_enum, keyW, sz0, sz1, sz2, sz3, sz4, sz5, sz6, O.dk.injEq, e_slT, e_slLit, e_slS, e_slL, e_lenAS, e_lenAT, e_lenALit, e_lenAL, e_lenAD, e_lenS, e_lenT, e_lenLit, e_lenL, e_i1, e_intI, e_intB, e_strI, e_strS, e_listT, e_listLit, e_listL, e_tupleT, e_tupleL, e_append, e_pop0, e_tyL, e_tyS, e_truL, e_truT, e_truB, e_truI, e_truS, e_truN, e_seqT, e_seqLit, e_seqL, e_in, e_inT, e_isi, kit_ll, kit_ss, kit_tt, kit_ii, kit_ib, tyW_L, tyW_S, tyW_T, tyW_I, tyW_B, cut_to1, cut_to2, cut_from1, wipeW_nil, wipeW_cons, Nat.reduceAdd, eq_self, List.map_cons, List.map_nil,
  atI_0, atI_1, atI_2, atI_3, atI_4, atI_5, atI_end, ixN_0, ixN_1, ixN_11, ixN_last, List.map_append, List.map_cons, List.map_nil, get_app, get_app0, set_app, set_app0, List.cons_append, List.nil_append, List.append_assoc, List.length_append, List.length_cons, List.length_nil, Nat.zero_add, List.length_map, List.length_set,
  List.getElem?_cons_zero, List.getElem?_cons_succ, List.set_cons_zero, List.set_cons_succ, Option.some.injEq, exists_eq_left', exists_eq_left, exists_and_left, W.int.injEq, W.bl.injEq, W.str.injEq, W.tup.injEq, W.ref.injEq, O.lst.injEq, List.cons.injEq, reduceCtorEq, false_and, exists_false, or_false, false_or, true_and, and_true, decide_eq_true_eq, Bool.false_xor, Bool.true_xor, Bool.not_eq_true', decide_eq_false_iff_not, List.isEmpty_cons, List.isEmpty_nil, Bool.not_true, Bool.not_false, if_true, if_false, not_true_eq_false, not_false_eq_true, ne_eq, Bool.false_eq_true, reduceIte])



theorem maps_of_at {α β : Type} {f : β → DL.W} {P : α → β → Prop} : ∀ {xs : List α} {ws : List DL.W}, ws.length = xs.length → (∀ (i : Nat) (a : α) (w : DL.W), xs[i]? = some a → ws[i]? = some w → ∃ b, w = f b ∧ P a b) → ∃ bs : List β, ws = bs.map f ∧ bs.length = xs.length ∧ ∀ (i : Nat) (a : α) (b : β), xs[i]? = some a → bs[i]? = some b → P a b
  | [], [], _, _ => ⟨[], rfl, rfl, fun _ _ _ h => by simp at h⟩
  | [], _ :: _, hl, _ => by simp at hl
  | _ :: _, [], hl, _ => by simp at hl
  | x :: xs, w :: ws, hl, h => by
    obtain ⟨b, rfl, hb⟩ := h 0 x w rfl rfl
    obtain ⟨bs, rfl, hbl, hbs⟩ := maps_of_at (P := P) (xs := xs) (ws := ws) (by simpa using hl) fun i a w ha hw => h (i + 1) a w ha hw
    refine ⟨b :: bs, rfl, by simp [hbl], fun i a c ha hc => ?_⟩
    cases i with
    | zero =>
      cases Option.some.inj ha
      cases Option.some.inj hc
      exact hb
    | succ i => exact hbs i a c ha hc
theorem rng_map (n : Nat) : rngW 0 n = (List.range n).map fun k : Nat => W.int (k : Int) := by
  unfold rngW
  refine List.map_congr_left fun i _ => ?_
  rw [Int.zero_add]
/-! ### what is behind R -/
theorem sbA {st : Src} {R A : Sto} {k : Nat} {o : O} (h : A[k]? = some o) : (SB st (R ++ A))[R.length + k + 1 + 1 + 1]? = some o := by
  show (R ++ A)[R.length + k]? = _
  rw [get_app]
  exact h
theorem sbR {st : Src} {R A : Sto} {k : Nat} {o : O} (h : R[k]? = some o) : (SB st (R ++ A))[k + 1 + 1 + 1]? = some o := by
  show (R ++ A)[k]? = _
  exact get_old h
theorem newA {A : Sto} {o : O} : (A ++ [o])[A.length]? = some o := List.getElem?_concat_length
theorem setA {A : Sto} {k j : Nat} {o o' : O} (hne : k ≠ j) (h : A[k]? = some o) : (A.set j o')[k]? = some o := by
  rw [List.getElem?_set_ne (Ne.symm hne)]
  exact h
theorem setAeq {A : Sto} {k : Nat} {o o' : O} (h : A[k]? = some o) : (A.set k o')[k]? = some o' := List.getElem?_set_self (List.getElem?_eq_some_iff.mp h).1
theorem sb_len {st : Src} {R A : Sto} : (SB st (R ++ A)).length = R.length + A.length + 1 + 1 + 1 := by simp
theorem sb_app {st : Src} {R A T : Sto} : SB st (R ++ A) ++ T = SB st (R ++ (A ++ T)) := by simp
theorem sb_set {st : Src} {R A : Sto} {k : Nat} {o : O} : (SB st (R ++ A)).set (R.length + k + 1 + 1 + 1) o = SB st (R ++ A.set k o) := by
  show _ :: _ :: _ :: (R ++ A).set (R.length + k) o = _
  rw [set_app]
/-! ### _law_house -/
def F_house : DSpec := fun ws S Q => ∃ st R jn jv names vals, ws = [.ref 2, .ref (jn + 1 + 1 + 1), .ref (jv + 1 + 1 + 1)] ∧ S = SB st R ∧ Good st ∧ R[jn]? = some (stro names) ∧ R[jv]? = some (iLst vals) ∧ names.Nodup ∧ names.length = 12 ∧ (∀ x ∈ names, OkS x) ∧ vals.length ≤ 20 ∧
  ∀ st' ts x1 ds x3 x4, Good st' → OkHouse ts ds → x1.pure = true → x3.pure = true → x4.pure = true → Q (houseW ts x1 ds x3 x4) (SB st' R)
structure Dsok (ts : List Tab) (fs : List Str) (ds : List Door) : Prop where
  l8 : ds.length ≤ 8
  nm : ds.map (·.name) = fs.take ds.length
  ok : ∀ d ∈ ds, d.cols.length ≤ 4 ∧ ∃ t ∈ ts, t.1 = d.table ∧ ∀ c ∈ d.cols, c < t.2
def HI (jn jv b : Nat) (R : Sto) (ts : List Tab) (fs : List Str) (sh : List Nat) (e : Slots) (s : Sto) : Prop := ∃ (st6 : Src) (ds : List Door) (G : Sto) (x8 x9 x10 x11 x12 x18 : Option DL.W), Good st6 ∧ Dsok ts fs ds ∧
  e = [some (.ref 2), some (.ref (jn + 1 + 1 + 1)), some (.ref (jv + 1 + 1 + 1)), some (.int ((b : Nat) : Int)), some (.ref (R.length + 0 + 1 + 1 + 1)), some (.ref (R.length + 1 + 1 + 1 + 1)), some (.ref (R.length + 2 + 1 + 1 + 1)), some (.ref (R.length + 3 + 1 + 1 + 1)), x8, x9, x10, x11, x12, none, none, none, none, none, x18] ∧ s = SB st6 (R ++ .lst (ts.map tabW) :: stro fs :: .lst (colsW sh) :: .lst (ds.map doorW) :: G)
theorem vc_house : ∀ ws S Q, Closed S → F_house ws S Q → d_law_house F_draw F_mix (endsW S.length Q) (startW N_law_house.length ws) S := by
  rintro ws S Q cl ⟨st, R, jn, jv, names, vals, rfl, rfl, g, hn, hv, nd, nl, nok, vl, q⟩
  show d_law_house F_draw F_mix _ [some (.ref 2), some (.ref (jn + 1 + 1 + 1)), some (.ref (jv + 1 + 1 + 1)), none, none, none, none, none, none, none, none, none, none, none, none, none, none, none, none] _
  unfold d_law_house
  refine seqI (fun e s => ∃ st2 b, Good st2 ∧ 1 ≤ b ∧ b ≤ 4 ∧ e = [some (.ref 2), some (.ref (jn + 1 + 1 + 1)), some (.ref (jv + 1 + 1 + 1)), some (.int ((b : Nat) : Int)), none, none, none, none, none, none, none, none, none, none, none, none, none, none, none] ∧ s = SB st2 (R ++ [])) (fun N hN => ?_) ?_
  · walk_at "dl"
    refine draw_ok g (by decide) (by decide) fun st2 r g2 r0 r1 => ?_
    walk_at "dl"
    refine hN _ _ ⟨st2, (1 + r).toNat, g2, by omega, by omega, ?_, by rw [List.append_nil]⟩
    rw [show (((1 + r).toNat : Nat) : Int) = 1 + r by omega]
  rintro e s ⟨st2, b, g2, b1, b4, rfl, rfl⟩
  refine seqI (fun e s => ∃ st3 ts, Good st3 ∧ OkTabs ts ∧ e = [some (.ref 2), some (.ref (jn + 1 + 1 + 1)), some (.ref (jv + 1 + 1 + 1)), some (.int ((b : Nat) : Int)), some (.ref (R.length + 0 + 1 + 1 + 1)), none, none, none, none, none, none, none, none, none, none, none, none, none, none] ∧ s = SB st3 (R ++ [.lst (ts.map tabW)])) (fun N hN => ?_) ?_
  · walk_at "dl"
    refine draw_ok g2 (by decide) (by decide) fun st3 r g3 r0 r1 => ?_
    walk_at "dl"
    refine ⟨by omega, by omega, ?_⟩
    rw [rng_map]
    refine compDrN (P := fun k w => ∃ t : Tab, w = tabW t ∧ (names[k]? = some t.1 ∧ 1 ≤ t.2 ∧ t.2 ≤ 4)) (fun _ => trivial) (by rw [List.length_range]; omega) g3 (fun k hk st4 g4 K hK => ?_) fun st4 ws g4 hl hP => ?_
    · have hk2 := List.mem_range.mp hk
      have hk3 : k < names.length := by omega
      walk_at "dl"
      rw [e_ixAL (sbR (st := st4) (A := []) hn) (show atI (names.map W.str) (k : Int) = some (.str names[k]) from atI_nat (by rw [List.getElem?_map, List.getElem?_eq_getElem hk3]; rfl))]
      walk_at "dl"
      refine draw_ok g4 (by decide) (by decide) fun st5 r5 g5 r50 r51 => ?_
      walk_at "dl"
      split
      · exact hK _ _ g5 ⟨(names[k], b), rfl, List.getElem?_eq_getElem hk3, b1, b4⟩
      · refine draw_ok g5 (by decide) (by decide) fun st6 r6 g6 r60 r61 => ?_
        walk_at "dl"
        refine hK _ _ g6 ⟨(names[k], (1 + r6).toNat), ?_, List.getElem?_eq_getElem hk3, by show 1 ≤ (1 + r6).toNat; omega, by show (1 + r6).toNat ≤ 4; omega⟩
        show _ = DL.W.tup [.str names[k], .int (((1 + r6).toNat : Nat) : Int)]
        rw [show (((1 + r6).toNat : Nat) : Int) = 1 + r6 by omega]
    · obtain ⟨ts, rfl, htl, hts⟩ := maps_of_at hl hP
      rw [List.length_range] at htl
      have hname : ts.map (·.1) = names.take ts.length := by
        refine List.ext_getElem? fun i => ?_
        by_cases hi : i < ts.length
        · have z := hts i i ts[i] (List.getElem?_range (by omega)) (List.getElem?_eq_getElem hi)
          rw [List.getElem?_map, List.getElem?_eq_getElem hi, List.getElem?_take_of_lt hi]
          exact z.1.symm
        · rw [List.getElem?_eq_none (by rw [List.length_map]; omega), List.getElem?_eq_none (by rw [List.length_take]; omega)]
      walk_at "dl"
      refine hN _ _ ⟨st4, ts, g4, ⟨by omega, by omega, by rw [hname]; exact nd.sublist (List.take_sublist _ _), fun t ht => ?_⟩, rfl, rfl⟩
      obtain ⟨i, hi⟩ := List.getElem?_of_mem ht
      have hlt := (List.getElem?_eq_some_iff.mp hi).1
      have z := hts i i t (List.getElem?_range (by omega)) hi
      exact ⟨z.2.1, z.2.2, (nok _ (List.mem_of_getElem? z.1)).2⟩
  rintro e s ⟨st3, ts, g3, okT, rfl, rfl⟩
  refine seqI (fun e s => ∃ st4 fs, Good st4 ∧ fs.Perm names ∧ e = [some (.ref 2), some (.ref (jn + 1 + 1 + 1)), some (.ref (jv + 1 + 1 + 1)), some (.int ((b : Nat) : Int)), some (.ref (R.length + 0 + 1 + 1 + 1)), some (.ref (R.length + 1 + 1 + 1 + 1)), none, none, none, none, none, none, none, none, none, none, none, none, none] ∧ s = SB st4 (R ++ [.lst (ts.map tabW), stro fs])) (fun N hN => ?_) ?_
  · walk_at "dl"
    refine mix_ok (us := names.map W.str) g3 (.inr ⟨jn, rfl, get_old hn⟩) (pureL_strs _) (by rw [List.length_map]; omega) fun st4 vs g4 hperm => ?_
    obtain ⟨fs, rfl, hf⟩ := perm_map_inv hperm names rfl
    walk_at "dl"
    exact hN _ _ ⟨st4, fs, g4, hf, rfl, rfl⟩
  rintro e s ⟨st4, fs, g4, hf, rfl, rfl⟩
  refine seqI (fun e s => ∃ st5 sh, Good st5 ∧ sh.Sublist (List.range b) ∧ e = [some (.ref 2), some (.ref (jn + 1 + 1 + 1)), some (.ref (jv + 1 + 1 + 1)), some (.int ((b : Nat) : Int)), some (.ref (R.length + 0 + 1 + 1 + 1)), some (.ref (R.length + 1 + 1 + 1 + 1)), some (.ref (R.length + 2 + 1 + 1 + 1)), none, none, none, none, none, none, none, none, none, none, none, none] ∧ s = SB st5 (R ++ [.lst (ts.map tabW), stro fs, .lst (colsW sh)])) (fun N hN => ?_) ?_
  · walk_at "dl"
    refine ⟨by omega, by omega, ?_⟩
    rw [Int.toNat_natCast, rng_map]
    refine compDrF (h := fun k : Nat => W.int (k : Int)) (fun _ => trivial) (by rw [List.length_range]; omega) g4 (fun k hk st5 g5 K hK => ?_) fun st5 ys g5 hs => ?_
    · walk_at "dl"
      refine draw_ok g5 (by decide) (by decide) fun st6 r6 g6 r60 r61 => ?_
      walk_at "dl"
      split
      · exact hK true _ g6
      · exact hK false _ g6
    · walk_at "dl"
      exact hN _ _ ⟨st5, ys, g5, hs, rfl, rfl⟩
  rintro e s ⟨st5, sh, g5, hsh, rfl, rfl⟩
  have okN : ∀ x ∈ fs, OkS x := fun x hx => nok x (hf.mem_iff.mp hx)
  have fnd : fs.Nodup := hf.nodup_iff.mpr nd
  have fl : fs.length = 12 := hf.length_eq.trans nl
  have inv0 : ∀ (ds : List Door), ds.length ≤ 8 → ds.map (·.name) = fs.take ds.length → (∀ d ∈ ds, d.cols.length ≤ 4 ∧ ∃ t ∈ ts, t.1 = d.table ∧ ∀ c ∈ d.cols, c < t.2) → (ds.map (·.name)).Nodup ∧ ∀ d ∈ ds, OkDoor ts d := by
    intro ds h8 hnm hok
    refine ⟨by rw [hnm]; exact fnd.sublist (List.take_sublist _ _), fun d hd => ⟨?_, (hok d hd).1, (hok d hd).2⟩⟩
    have : d.name ∈ fs.take ds.length := by rw [← hnm]; exact List.mem_map_of_mem hd
    exact (okN _ (List.mem_of_mem_take this)).2
  refine seqI (HI jn jv b R ts fs sh) (fun N hN => ?_) ?_
  · walk_at "dl"
    exact hN _ _ ⟨st5, [], [], none, none, none, none, none, none, g5, ⟨by decide, rfl, by simp⟩, rfl, rfl⟩
  intro e s hI
  refine seqI (HI jn jv b R ts fs sh) (fun N hN => ?_) ?_
  · obtain ⟨st6, ds, G, x8, x9, x10, x11, x12, x18, g6, okD, rfl, rfl⟩ := hI
    have hT : ∀ (st7 : Src) (ds : List Door) (G : Sto), (SB st7 (R ++ .lst (ts.map tabW) :: stro fs :: .lst (colsW sh) :: .lst (ds.map doorW) :: G))[R.length + 0 + 1 + 1 + 1]? = some (.lst (ts.map tabW)) := fun st7 ds G => sbA (k := 0) rfl
    rw [e_for, e_iseq, e_var rfl, e_seqL (hT _ _ _)]
    refine forW_inv (fun i e s => HI jn jv b R ts fs sh e s) ⟨st6, ds, G, _, _, _, _, _, _, g6, okD, rfl, rfl⟩ ?_ ?_
    · rintro i x e s hx ⟨st6, ds, G, x8, x9, x10, x11, x12, x18, g6, okD, rfl, rfl⟩ N2 hN2
      obtain ⟨t, ht, rfl, htm, hi⟩ := map_get hx
      refine ⟨hT _ _ _, ?_⟩
      walk_at "dl"
      refine draw_ok g6 (by decide) (by decide) fun st7 r7 g7 r70 r71 => ?_
      walk_at "dl"
      refine draw_ok g7 (by decide) (by decide) fun st8 r8 g8 r80 r81 => ?_
      walk_at "dl"
      refine ⟨by omega, by omega, ?_⟩
      refine forW_inv (fun i e s => HI jn jv b R ts fs sh e s ∧ e[8]? = some (some (tabW t)) ∧ ∃ w, e[9]? = some (some (.int w))) ⟨⟨st8, ds, G, _, _, _, _, _, _, g8, okD, rfl, rfl⟩, rfl, _, rfl⟩ ?_ ?_
      · rintro i x e s hx ⟨⟨st9, ds, G, y8, y9, y10, y11, y12, y18, g9, okD, rfl, rfl⟩, h8, w9, h9⟩ N3 hN3
        obtain ⟨hi, rfl⟩ := rng_get hx
        cases Option.some.inj h8
        cases Option.some.inj h9
        refine ⟨trivial, ?_⟩
        rw [e_nm]
        refine seqI (fun e s => ∃ st kd, Good st ∧ e = [some (.ref 2), some (.ref (jn + 1 + 1 + 1)), some (.ref (jv + 1 + 1 + 1)), some (.int ((b : Nat) : Int)), some (.ref (R.length + 0 + 1 + 1 + 1)), some (.ref (R.length + 1 + 1 + 1 + 1)), some (.ref (R.length + 2 + 1 + 1 + 1)), some (.ref (R.length + 3 + 1 + 1 + 1)), some (tabW t), some (.int w9), some (.int (i : Int)), some (.int kd), y12, none, none, none, none, none, y18] ∧ s = SB st (R ++ .lst (ts.map tabW) :: stro fs :: .lst (colsW sh) :: .lst (ds.map doorW) :: G)) (fun N4 hN4 => ?_) ?_
        · walk_at "dl"
          refine draw_ok g9 (by decide) (by decide) fun st r g r0 r1 => ?_
          exact hN4 _ _ ⟨st, r, g, rfl, rfl⟩
        rintro e s ⟨st, kd, g, rfl, rfl⟩
        have tw := okT.w t htm
        refine seqI (fun e s => ∃ st G jt cs, Good st ∧ e = [some (.ref 2), some (.ref (jn + 1 + 1 + 1)), some (.ref (jv + 1 + 1 + 1)), some (.int ((b : Nat) : Int)), some (.ref (R.length + 0 + 1 + 1 + 1)), some (.ref (R.length + 1 + 1 + 1 + 1)), some (.ref (R.length + 2 + 1 + 1 + 1)), some (.ref (R.length + 3 + 1 + 1 + 1)), some (tabW t), some (.int w9), some (.int (i : Int)), some (.int kd), some (.ref jt), none, none, none, none, none, y18] ∧ s = SB st (R ++ .lst (ts.map tabW) :: stro fs :: .lst (colsW sh) :: .lst (ds.map doorW) :: G) ∧ (∀ st : Src, (SB st (R ++ .lst (ts.map tabW) :: stro fs :: .lst (colsW sh) :: .lst (ds.map doorW) :: G))[jt]? = some (.lst (colsW cs))) ∧ cs.length ≤ 4 ∧ ∀ c ∈ cs, c < t.2) (fun N4 hN4 => ?_) ?_
        · walk_at "dl"
          refine ⟨by omega, by omega, ?_⟩
          rw [Int.toNat_natCast, rng_map]
          refine compDrF (h := fun k : Nat => W.int (k : Int)) (fun _ => trivial) (by rw [List.length_range]; omega) g (fun k hk st5 g5 K hK => ?_) fun st5 ys g5 hs => ?_
          · have go : F_draw [.ref 2, .int 2] (SB st5 (R ++ .lst (ts.map tabW) :: stro fs :: .lst (colsW sh) :: .lst (ds.map doorW) :: G)) fun x S1 => vEq x (.int 0) S1 fun w S1 => ∃ c, w = DL.W.bl c ∧ if c = true then K true (.int (k : Int)) S1 else K false (.int (k : Int)) S1 := by
              refine draw_ok g5 (by decide) (by decide) fun st6 r6 g6 r60 r61 => ?_
              walk_at "dl"
              split
              · exact hK true _ g6
              · exact hK false _ g6
            walk_at "dl"
            split
            · exact hK true _ g5
            · split
              · split
                · exact hK true _ g5
                · split
                  · exact go
                  · exact hK false _ g5
              · split
                · exact go
                · exact hK false _ g5
          · walk_at "dl"
            refine hN4 _ _ ⟨st5, G ++ [.lst (colsW ys)], _, ys, g5, rfl, ?_, ?_, ?_, ?_⟩
            · simp
            · exact fun _ => sbA (k := G.length + 1 + 1 + 1 + 1) (newA (A := G))
            · have := hs.length_le
              rw [List.length_range] at this
              omega
            · intro c hc
              exact List.mem_range.mp (hs.subset hc)
        rintro e s ⟨st, G, jt, cs, g, rfl, rfl, hjt, hc4, hct⟩
        refine seqI (fun e s => ∃ st G jt cs, Good st ∧ e = [some (.ref 2), some (.ref (jn + 1 + 1 + 1)), some (.ref (jv + 1 + 1 + 1)), some (.int ((b : Nat) : Int)), some (.ref (R.length + 0 + 1 + 1 + 1)), some (.ref (R.length + 1 + 1 + 1 + 1)), some (.ref (R.length + 2 + 1 + 1 + 1)), some (.ref (R.length + 3 + 1 + 1 + 1)), some (tabW t), some (.int w9), some (.int (i : Int)), some (.int kd), some (.ref jt), none, none, none, none, none, y18] ∧ s = SB st (R ++ .lst (ts.map tabW) :: stro fs :: .lst (colsW sh) :: .lst (ds.map doorW) :: G) ∧ (∀ st : Src, (SB st (R ++ .lst (ts.map tabW) :: stro fs :: .lst (colsW sh) :: .lst (ds.map doorW) :: G))[jt]? = some (.lst (colsW cs))) ∧ cs.length ≤ 4 ∧ ∀ c ∈ cs, c < t.2) (fun N4 hN4 => ?_) ?_
        · walk_at "dl"
          split
          · rename_i htb
            refine draw_ok g (by decide) (by decide) fun st r g r0 r1 => ?_
            walk_at "dl"
            split
            · refine hN4 _ _ ⟨st, G, R.length + 2 + 1 + 1 + 1, sh, g, rfl, rfl, fun _ => sbA (k := 2) rfl, ?_, ?_⟩
              · have := hsh.length_le
                rw [List.length_range] at this
                omega
              · intro c hc
                have := List.mem_range.mp (hsh.subset hc)
                omega
            · exact hN4 _ _ ⟨st, G, jt, cs, g, rfl, rfl, hjt, hc4, hct⟩
          · exact hN4 _ _ ⟨st, G, jt, cs, g, rfl, rfl, hjt, hc4, hct⟩
        rintro e s ⟨st, G, jt, cs, g, rfl, rfl, hjt, hc4, hct⟩
        have hD : ∀ (st7 : Src) (ds : List Door) (G : Sto), (SB st7 (R ++ .lst (ts.map tabW) :: stro fs :: .lst (colsW sh) :: .lst (ds.map doorW) :: G))[R.length + 3 + 1 + 1 + 1]? = some (.lst (ds.map doorW)) := fun st7 ds G => sbA (k := 3) rfl
        have hF : ∀ (st7 : Src) (ds : List Door) (G : Sto), (SB st7 (R ++ .lst (ts.map tabW) :: stro fs :: .lst (colsW sh) :: .lst (ds.map doorW) :: G))[R.length + 1 + 1 + 1 + 1]? = some (stro fs) := fun st7 ds G => sbA (k := 1) rfl
        rw [e_ifs, e_B, e_op, e_cb, e_cons, e_var rfl, e_nil, e_lenAL (hD _ _ _)]
        walk_at "dl"
        split
        · rename_i hlt
          have hfl : ds.length < fs.length := by omega
          have ea : atI (fs.map W.str) (ds.length : Int) = some (.str fs[ds.length]) := atI_nat (by rw [List.getElem?_map, List.getElem?_eq_getElem hfl]; rfl)
          have app : ∀ k : Bool, N3 ([some (.ref 2), some (.ref (jn + 1 + 1 + 1)), some (.ref (jv + 1 + 1 + 1)), some (.int ((b : Nat) : Int)), some (.ref (R.length + 0 + 1 + 1 + 1)), some (.ref (R.length + 1 + 1 + 1 + 1)), some (.ref (R.length + 2 + 1 + 1 + 1)), some (.ref (R.length + 3 + 1 + 1 + 1)), some (tabW t), some (.int w9), some (.int (i : Int)), some (.int kd), some (.ref jt), none, none, none, none, none, y18]) (SB st (R ++ .lst (ts.map tabW) :: stro fs :: .lst (colsW sh) :: .lst (ds.map doorW ++ [.tup [.str fs[ds.length], .str t.1, .tup (colsW cs), .str (kindS k)]]) :: G)) := by
            intro k
            refine hN3 _ _ ⟨⟨st, ds ++ [⟨fs[ds.length], t.1, cs, k⟩], G, _, _, _, _, _, _, g, ⟨by simp; omega, ?_, ?_⟩, rfl, ?_⟩, rfl, _, rfl⟩
            · rw [List.map_append, List.length_append, okD.nm]
              exact (take_snoc (List.getElem?_eq_getElem hfl)).symm
            · intro d hd
              rcases List.mem_append.mp hd with h | h
              · exact okD.ok d h
              · rw [List.mem_singleton.mp h]
                exact ⟨hc4, t, htm, rfl, hct⟩
            · rw [List.map_append]
              rfl
          rw [e_ixAL (hF _ _ _) ea]
          walk_at "dl"
          rw [e_tupleL (hjt _)]
          walk_at "dl"
          split
          · exact ⟨lt_sz (by omega), app true⟩
          · exact ⟨lt_sz (by omega), app false⟩
        · exact hN3 _ _ ⟨⟨st, ds, G, _, _, _, _, _, _, g, okD, rfl, rfl⟩, rfl, _, rfl⟩
      · rintro e s ⟨hI, _, _⟩
        exact ⟨trivial, hN2 _ _ hI⟩
    · intro e s hI
      exact ⟨by obtain ⟨st6, ds, G, x8, x9, x10, x11, x12, x18, g6, okD, rfl, rfl⟩ := hI; exact hT _ _ _, hN _ _ hI⟩
  clear hI
  intro e s hI
  have t0 : 0 < ts.length := okT.t1
  have z0 : atI (ts.map tabW) 0 = some (tabW ts[0]) := (at_map (f := tabW) (xs := ts) (r := 0) (by decide) (by omega)).elim fun x hx => by
    have e : ts[0] = x := by
      have := hx.2.1
      rw [show (0 : Int).toNat = 0 from rfl, List.getElem?_eq_getElem t0] at this
      exact Option.some.inj this
    rw [e]
    exact hx.2.2
  refine seqI (fun e s => ∃ (st : Src) (ds : List Door) (A : Sto) (jd : Nat) (x8 x9 x10 x11 x12 x18 : Option DL.W), Good st ∧ 0 < ds.length ∧ ds.length ≤ 8 ∧ (ds.map (·.name)).Nodup ∧ (∀ d ∈ ds, OkDoor ts d) ∧ A[0]? = some (.lst (ts.map tabW)) ∧ A[jd]? = some (.lst (ds.map doorW)) ∧ e = [some (.ref 2), some (.ref (jn + 1 + 1 + 1)), some (.ref (jv + 1 + 1 + 1)), some (.int ((b : Nat) : Int)), some (.ref (R.length + 0 + 1 + 1 + 1)), some (.ref (R.length + 1 + 1 + 1 + 1)), some (.ref (R.length + 2 + 1 + 1 + 1)), some (.ref (R.length + jd + 1 + 1 + 1)), x8, x9, x10, x11, x12, none, none, none, none, none, x18] ∧ s = SB st (R ++ A)) (fun N hN => ?_) ?_
  · obtain ⟨st, ds, G, x8, x9, x10, x11, x12, x18, g, okD, rfl, rfl⟩ := hI
    have hD : ∀ (st7 : Src), (SB st7 (R ++ .lst (ts.map tabW) :: stro fs :: .lst (colsW sh) :: .lst (ds.map doorW) :: G))[R.length + 3 + 1 + 1 + 1]? = some (.lst (ds.map doorW)) := fun st7 => sbA (k := 3) rfl
    have hF : ∀ (st7 : Src), (SB st7 (R ++ .lst (ts.map tabW) :: stro fs :: .lst (colsW sh) :: .lst (ds.map doorW) :: G))[R.length + 1 + 1 + 1 + 1]? = some (stro fs) := fun st7 => sbA (k := 1) rfl
    have hT : ∀ (st7 : Src), (SB st7 (R ++ .lst (ts.map tabW) :: stro fs :: .lst (colsW sh) :: .lst (ds.map doorW) :: G))[R.length + 0 + 1 + 1 + 1]? = some (.lst (ts.map tabW)) := fun st7 => sbA (k := 0) rfl
    rw [e_ifs, e_B, e_op, e_cb, e_cons, e_var rfl, e_nil, e_lenAL (hD _)]
    walk_at "dl"
    split
    · have hfl : 0 < fs.length := by omega
      have ea : atI (fs.map W.str) 0 = some (.str fs[0]) := atI_nat (j := 0) (by rw [List.getElem?_map, List.getElem?_eq_getElem hfl]; rfl)
      rw [e_ixAL (hF _) ea]
      walk_at "dl"
      rw [e_ixAL (hT _) z0]
      walk_at "dl"
      refine hN _ _ ⟨st, [⟨fs[0], ts[0].1, [], true⟩], _, G.length + 1 + 1 + 1 + 1, _, _, _, _, _, _, g, Nat.one_pos, (by show 1 ≤ 8; decide), by simp, ?_, rfl, newA (A := G), rfl, rfl⟩
      · intro d hd
        rw [List.mem_singleton.mp hd]
        exact ⟨(okN _ (List.getElem_mem hfl)).2, Nat.zero_le _, ts[0], List.getElem_mem t0, rfl, by simp⟩
    · rename_i hne
      have i2 := inv0 ds okD.l8 okD.nm okD.ok
      refine hN _ _ ⟨st, ds, _, 3, _, _, _, _, _, _, g, by omega, okD.l8, i2.1, i2.2, rfl, rfl, rfl, rfl⟩
  clear hI
  rintro e s ⟨st, ds, A, jd, x8, x9, x10, x11, x12, x18, g, d1, d8, dnd, dok, hA0, hAd, rfl, rfl⟩
  refine seqI (fun e s => ∃ (st : Src) (A : Sto) (kt : Nat) (tw : List DL.W), Good st ∧ A[0]? = some (.lst (ts.map tabW)) ∧ A[jd]? = some (.lst (ds.map doorW)) ∧ A[kt]? = some (.lst tw) ∧ W.pureL tw = true ∧ e = [some (.ref 2), some (.ref (jn + 1 + 1 + 1)), some (.ref (jv + 1 + 1 + 1)), some (.int ((b : Nat) : Int)), some (.ref (R.length + 0 + 1 + 1 + 1)), some (.ref (R.length + 1 + 1 + 1 + 1)), some (.ref (R.length + 2 + 1 + 1 + 1)), some (.ref (R.length + jd + 1 + 1 + 1)), x8, x9, x10, x11, x12, some (.ref (R.length + kt + 1 + 1 + 1)), none, none, none, none, x18] ∧ s = SB st (R ++ A)) (fun N hN => ?_) ?_
  · rw [e_asg, e_comp, e_iseq, e_var rfl, e_seqL (sbA hA0)]
    refine compDrF (h := fun t : Tab => .tup [.str t.1, .tup [.int 0], .int 1]) (fun st' => sbA hA0) (by have := okT.t4; omega) g (fun t ht st5 g5 K hK => ?_) fun st5 ys g5 hs => ?_
    · walk_at "dl"
      split
      · refine draw_ok g5 (by decide) (by decide) fun st6 r6 g6 r60 r61 => ?_
        walk_at "dl"
        split
        · exact hK true _ g6
        · exact hK false _ g6
      · exact hK false _ g5
    · rw [e_nm, sb_len, sb_app]
      refine hN _ _ ⟨st5, A ++ [.lst _], A.length, _, g5, get_old hA0, get_old hAd, newA, ?_, rfl, rfl⟩
      exact pureL_of fun w hw => by
        obtain ⟨t, _, rfl⟩ := List.mem_map.mp hw
        rfl
  clear hA0 hAd g
  rintro e s ⟨st, A, kt, tw, g, hA0, hAd, hAt, hptw, rfl, rfl⟩
  refine seqI (fun e s => ∃ (A : Sto) (kr : Nat) (rw : List DL.W), A[0]? = some (.lst (ts.map tabW)) ∧ A[jd]? = some (.lst (ds.map doorW)) ∧ A[kt]? = some (.lst tw) ∧ A[kr]? = some (.lst rw) ∧ W.pureL rw = true ∧ e = [some (.ref 2), some (.ref (jn + 1 + 1 + 1)), some (.ref (jv + 1 + 1 + 1)), some (.int ((b : Nat) : Int)), some (.ref (R.length + 0 + 1 + 1 + 1)), some (.ref (R.length + 1 + 1 + 1 + 1)), some (.ref (R.length + 2 + 1 + 1 + 1)), some (.ref (R.length + jd + 1 + 1 + 1)), x8, x9, x10, x11, x12, some (.ref (R.length + kt + 1 + 1 + 1)), some (.ref (R.length + kr + 1 + 1 + 1)), none, none, none, x18] ∧ s = SB st (R ++ A)) (fun N hN => ?_) ?_
  · rw [e_asg, e_lst, e_nil]
    refine ⟨Nat.zero_le _, ?_⟩
    rw [e_nm, sb_len, sb_app]
    exact hN _ _ ⟨A ++ [.lst []], A.length, [], get_old hA0, get_old hAd, get_old hAt, newA, rfl, rfl, rfl⟩
  clear hA0 hAd hAt
  rintro e s ⟨A, kr, rws, hA0, hAd, hAt, hAr, hprw, rfl, rfl⟩
  refine seqI (fun e s => ∃ (st : Src) (A : Sto) (kr : Nat) (rw : List DL.W) (x15 : Option DL.W), Good st ∧ A[0]? = some (.lst (ts.map tabW)) ∧ A[jd]? = some (.lst (ds.map doorW)) ∧ A[kt]? = some (.lst tw) ∧ A[kr]? = some (.lst rw) ∧ W.pureL rw = true ∧ e = [some (.ref 2), some (.ref (jn + 1 + 1 + 1)), some (.ref (jv + 1 + 1 + 1)), some (.int ((b : Nat) : Int)), some (.ref (R.length + 0 + 1 + 1 + 1)), some (.ref (R.length + 1 + 1 + 1 + 1)), some (.ref (R.length + 2 + 1 + 1 + 1)), some (.ref (R.length + jd + 1 + 1 + 1)), x8, x9, x10, x11, x12, some (.ref (R.length + kt + 1 + 1 + 1)), some (.ref (R.length + kr + 1 + 1 + 1)), x15, none, none, x18] ∧ s = SB st (R ++ A)) (fun N hN => ?_) ?_
  · rw [e_ifs, e_and, e_B, e_op, e_cb, e_cons, e_var rfl, e_nil, e_lenAL (sbA hA0)]
    walk_at "dl"
    split
    · rename_i hl2
      refine draw_ok g (by decide) (by decide) fun st6 r6 g6 r60 r61 => ?_
      walk_at "dl"
      split
      · rw [e_ixAL (sbA (k := 0) hA0) z0]
        walk_at "dl"
        rw [e_ixAL (sbA (k := 0) hA0) z0]
        walk_at "dl"
        rw [e_slL (sbR (A := A) hn)]
        walk_at "dl"
        have h1l : 1 < ts.length := by omega
        have z1 : atI (ts.map tabW) 1 = some (tabW ts[1]) := atI_nat (j := 1) (by rw [List.getElem?_map, List.getElem?_eq_getElem h1l]; rfl)
        generalize O.lst (cutW (List.map W.str names) none (some (ts[0].2 : Int))) = o1
        have hT1 : (SB st6 (R ++ (A ++ [o1])))[R.length + 0 + 1 + 1 + 1]? = some (.lst (ts.map tabW)) := sbA (get_old hA0)
        have hN1 : (SB st6 (R ++ (A ++ [o1])))[jn + 1 + 1 + 1]? = some (stro names) := sbR hn
        have n0 : 0 < names.length := by omega
        have zn : atI (names.map W.str) 0 = some (.str names[0]) := atI_nat (j := 0) (by rw [List.getElem?_map, List.getElem?_eq_getElem n0]; rfl)
        rw [e_ixAL hT1 z1]
        walk_at "dl"
        rw [e_ixAL hT1 z1]
        walk_at "dl"
        have tw1 := okT.w ts[1] (List.getElem_mem h1l)
        refine ⟨by omega, by omega, ?_⟩
        rw [Int.toNat_natCast, rng_map]
        refine compM (S := SB st6 (R ++ (A ++ [o1]))) (h := fun _ : Nat => W.str names[0]) trivial (by rw [List.length_range]; omega) (fun k hk K hK => ?_) ?_
        · rw [e_op, e_var rfl, e_c, e_ixAL hN1 zn]
          exact hK
        · rw [sb_len, sb_app]
          rw [e_tupleL (sbA (newA (A := A ++ [o1])))]
          rw [sb_len, sb_app]
          refine hN _ _ ⟨st6, _, _, _, _, g6, get_old (get_old (get_old hA0)), get_old (get_old (get_old hAd)), get_old (get_old (get_old hAt)), newA, ?_, rfl, rfl⟩
          have p1 : W.pureL (cutW (names.map W.str) none (some (ts[0].2 : Int))) = true := pureL_of fun w hw => by
            obtain ⟨x, _, rfl⟩ := List.mem_map.mp (List.mem_of_mem_drop (List.mem_of_mem_take hw))
            rfl
          have p2 : W.pureL ((List.range ts[1].2).map fun _ => W.str names[0]) = true := pureL_of fun w hw => by
            obtain ⟨x, _, rfl⟩ := List.mem_map.mp hw
            rfl
          show ((((true && (W.pureL (cutW (names.map W.str) none (some (ts[0].2 : Int))) && true)) && true) && ((true && (W.pureL ((List.range ts[1].2).map fun _ => W.str names[0]) && true)) && true)) && true) = true
          rw [p1, p2]
          rfl
      · exact hN _ _ ⟨st6, A, kr, rws, none, g6, hA0, hAd, hAt, hAr, hprw, rfl, rfl⟩
    · exact hN _ _ ⟨st, A, kr, rws, none, g, hA0, hAd, hAt, hAr, hprw, rfl, rfl⟩
  clear hA0 hAd hAt hAr hprw g rws kr
  rintro e s ⟨st, A, kr, rws, x15, g, hA0, hAd, hAt, hAr, hprw, rfl, rfl⟩
  refine seqI (fun e s => ∃ (st : Src) (A : Sto) (x16 : DL.W), Good st ∧ A[0]? = some (.lst (ts.map tabW)) ∧ A[jd]? = some (.lst (ds.map doorW)) ∧ A[kt]? = some (.lst tw) ∧ A[kr]? = some (.lst rws) ∧ x16.pure = true ∧ e = [some (.ref 2), some (.ref (jn + 1 + 1 + 1)), some (.ref (jv + 1 + 1 + 1)), some (.int ((b : Nat) : Int)), some (.ref (R.length + 0 + 1 + 1 + 1)), some (.ref (R.length + 1 + 1 + 1 + 1)), some (.ref (R.length + 2 + 1 + 1 + 1)), some (.ref (R.length + jd + 1 + 1 + 1)), x8, x9, x10, x11, x12, some (.ref (R.length + kt + 1 + 1 + 1)), some (.ref (R.length + kr + 1 + 1 + 1)), x15, some x16, none, x18] ∧ s = SB st (R ++ A)) (fun N hN => ?_) ?_
  · walk_at "dl"
    refine draw_ok g (by decide) (by decide) fun st6 r6 g6 r60 r61 => ?_
    refine ⟨_, rfl, ?_⟩
    rw [e_slL (sbR (A := A) hv), sb_len, sb_app]
    have pc : ∀ w ∈ cutW (vals.map W.int) none (some r6), ∃ n : Int, w = .int n := fun w hw => by
      obtain ⟨x, _, rfl⟩ := List.mem_map.mp (List.mem_of_mem_drop (List.mem_of_mem_take hw))
      exact ⟨x, rfl⟩
    refine .inl (sorted_std (k := .i) (sbA newA) (fun w hw => by obtain ⟨n, rfl⟩ := pc w hw; rfl) pc (.inr fun w hw us e => by obtain ⟨n, rfl⟩ := pc w hw; cases e) ?_)
    rw [sb_len, sb_app, e_tupleL (sbA newA)]
    refine hN _ _ ⟨st6, _, _, g6, get_old (get_old hA0), get_old (get_old hAd), get_old (get_old hAt), get_old (get_old hAr), ?_, rfl, rfl⟩
    refine pureL_of fun w hw => ?_
    obtain ⟨n, rfl⟩ := pc w (List.mem_mergeSort.mp hw)
    rfl
  clear hA0 hAd hAt hAr g
  rintro e s ⟨st, A, x16, g, hA0, hAd, hAt, hAr, hp16, rfl, rfl⟩
  rw [e_ret, e_tup, e_cons, e_cb, e_cons, e_var rfl, e_nil, e_tupleL (sbA (k := 0) hA0), e_cons, e_var rfl, e_cons, e_cb, e_cons, e_cb, e_cons, e_var rfl, e_nil]
  have ds1 : ∀ w ∈ ds.map doorW, w.std = true := fun w hw => by
    obtain ⟨d, hd, rfl⟩ := List.mem_map.mp hw
    obtain ⟨t, ht, e, _⟩ := (dok d hd).tab
    exact door_std (dok d hd).name (by rw [← e]; exact (okT.w t ht).2.2)
  have ds2 : ∀ w ∈ ds.map doorW, IsK doorKd w := fun w hw => by
    obtain ⟨d, hd, rfl⟩ := List.mem_map.mp hw
    exact door_isK d
  refine .inl (sorted_std (k := doorKd) (sbA hAd) ds1 ds2 (.inl fun w hw => by obtain ⟨d, hd, rfl⟩ := List.mem_map.mp hw; exact ⟨_, _, rfl⟩) ?_)
  obtain ⟨es, he, hes⟩ := perm_map_inv (List.mergeSort_perm (ds.map doorW) leW) ds rfl
  have hasc := sort_asc (ds.map doorW)
  rw [he] at hasc ⊢
  rw [sb_len, sb_app, e_nil, e_tupleL (sbA newA), e_cons, e_cb, e_cons, e_var rfl, e_nil, e_tupleL (sbA (get_old hAr)), e_cons, e_cb, e_cons, e_var rfl, e_nil, e_tupleL (sbA (get_old hAt)), e_cons, e_tup, e_nil]
  refine ⟨Nat.zero_le _, by show 6 ≤ sizeLine; decide, ?_⟩
  have okH : OkHouse ts es := ⟨okT, by rw [hes.length_eq]; exact d1, by rw [hes.length_eq]; exact d8, (hes.map _).nodup_iff.mpr dnd, fun d hd => dok d (hes.mem_iff.mp hd), hasc⟩
  exact endST _ cl (house_pure hp16 hprw hptw) (q st ts x16 es _ _ g okH hp16 hprw hptw)

end K25

namespace K25
open PySem PySem.Spec PyProof.Rows L2 TL DL
local macro_rules | `(tactic| walk_at "dl") => `(tactic| try simp (config := { decide := false }) only [e_seq, e_asg, e_nm, e_op, e_un, e_cb, e_c, e_var, e_ifs, e_tru, e_B, e_drop, e_bm, e_bm0, e_ret, e_retN, e_next, e_break, e_cont, e_nil, e_cons, e_tup, e_lst, e_sl, e_onone, e_osome, e_gsub, e_call, e_callk, e_and, e_or, e_not, e_andv, e_orv, e_notv, e_notU, e_isI, e_isS, e_isT, e_isR, e_isN, e_if, e_par, e_for, e_comp, e_iseq, e_rng1, e_rng3, e_zip, e_dictC, e_sc2, e_iseqF, e_yes, e_dictN, src_cells, src_great, src_rest, src_count, src_putR, src_putC, src_len, sz4l, e_nget1, e_nget2, e_lockN, e_dictCN, e_disp, e_ap0, e_ap1, e_gtp, e_gc, e_gn0,
  e_addI, e_addS, e_addT, e_addL, e_i20, e_i2, e_neg, e_cmpI, e_cmpS, e_eqI, e_eqS, e_eqB, e_ixT, e_ixLit, e_ixL, e_ixS, e_set, e_ixAT, e_ixALit, e_ixAL, e_ixAS, e_ixAD, e_setAL, e_setAD, e_dict0, e_inAL, e_inAT, e_inAD, e_inAS, e_listAT, e_listALit, e_listAL, e_listAD, e_max2, e_extend, e_isalpha, e_enum, keyW, sz0, sz1, sz2, sz3, sz4, sz5, sz6, O.dk.injEq, e_slT, e_slLit, e_slS, e_slL, e_lenAS, e_lenAT, e_lenALit, e_lenAL, e_lenAD, e_lenS, e_lenT, e_lenLit, e_lenL, e_i1, e_intI, e_intB, e_strI, e_strS, e_listT, e_listLit, e_listL, e_tupleT, e_tupleL, e_append, e_pop0, e_tyL, e_tyS, e_truL, e_truT, e_truB, e_truI, e_truS, e_truN, e_seqT, e_seqLit, e_seqL, e_in, e_inT, e_isi, kit_ll, kit_ss, kit_tt, kit_ii, kit_ib, tyW_L, tyW_S, tyW_T, tyW_I, tyW_B, cut_to1, cut_to2, cut_from1, wipeW_nil, wipeW_cons, Nat.reduceAdd, eq_self, List.map_cons, List.map_nil,
  atI_0, atI_1, atI_2, atI_3, atI_4, atI_5, atI_end, ixN_0, ixN_1, ixN_11, ixN_last, List.map_append, List.map_cons, List.map_nil, get_app, get_app0, set_app, set_app0, List.cons_append, List.nil_append, List.append_assoc, List.length_append, List.length_cons, List.length_nil, Nat.zero_add, List.length_map, List.length_set,
  List.getElem?_cons_zero, List.getElem?_cons_succ, List.set_cons_zero, List.set_cons_succ, Option.some.injEq, exists_eq_left', exists_eq_left, exists_and_left, W.int.injEq, W.bl.injEq, W.str.injEq, W.tup.injEq, W.ref.injEq, O.lst.injEq, List.cons.injEq, reduceCtorEq, false_and, exists_false, or_false, false_or, true_and, and_true, decide_eq_true_eq, Bool.false_xor, Bool.true_xor, Bool.not_eq_true', decide_eq_false_iff_not, List.isEmpty_cons, List.isEmpty_nil, Bool.not_true, Bool.not_false, if_true, if_false, not_true_eq_false, not_false_eq_true, ne_eq, Bool.false_eq_true, reduceIte])



/-! ### stores -/
abbrev Row := Str × List Int
abbrev rowW (p : Row) : DL.W := .tup [.str p.1, intsT p.2]
abbrev storeW (rows : List Row) : DL.W := .tup (rows.map rowW)
structure OkStore (ts : List Tab) (rows : List Row) : Prop where
  ok : ∀ p ∈ rows, ∃ t ∈ ts, t.1 = p.1 ∧ p.2.length = t.2
  len : rows.length ≤ 300
  asc : (rows.map rowW).Pairwise fun a b => leW a b = true
abbrev rowKd : Kd := .cons .s (.cons (.seq .i) .nil)
theorem row_isK (p : Row) : IsK rowKd (rowW p) := ⟨_, _, rfl, ⟨_, rfl⟩, _, _, rfl, isK_ints _, rfl⟩
theorem row_std {p : Row} (h : PyData.strOk p.1 = true) : (rowW p).std = true := by
  show (PyData.strOk p.1 && ((intsT p.2).std && true)) = true
  rw [h, std_ints]
  rfl
theorem rowW_inj {p q : Row} : rowW p = rowW q ↔ p = q := by
  refine ⟨fun h => ?_, fun h => by rw [h]⟩
  have h1 : [W.str p.1, intsT p.2] = [W.str q.1, intsT q.2] := by injection h
  obtain ⟨h2, h3⟩ := List.cons.inj h1
  have h4 := intsT_inj.mp (List.cons.inj h3).1
  exact Prod.ext (by injection h2) h4
theorem row_mem {p : Row} {rows : List Row} : rowW p ∈ rows.map rowW ↔ p ∈ rows := by
  rw [List.mem_map]
  exact ⟨fun ⟨q, hq, e⟩ => rowW_inj.mp e ▸ hq, fun h => ⟨p, h, rfl⟩⟩
theorem pureL_rows (rows : List Row) : W.pureL (rows.map rowW) = true := pureL_of fun w hw => by
  obtain ⟨d, _, rfl⟩ := List.mem_map.mp hw
  show (true && (W.pureL (d.2.map W.int) && true)) = true
  rw [pureL_ints]
  rfl
theorem rows_std {ts : List Tab} (okT : OkTabs ts) {rows : List Row} (h : ∀ p ∈ rows, ∃ t ∈ ts, t.1 = p.1 ∧ p.2.length = t.2) : ∀ w ∈ rows.map rowW, w.std = true := fun w hw => by
  obtain ⟨p, hp, rfl⟩ := List.mem_map.mp hw
  obtain ⟨t, ht, e, _⟩ := h p hp
  exact row_std (by rw [← e]; exact (okT.w t ht).2.2)
theorem rows_isK (rows : List Row) : ∀ w ∈ rows.map rowW, IsK rowKd w := fun w hw => by
  obtain ⟨p, hp, rfl⟩ := List.mem_map.mp hw
  exact row_isK p
theorem vals_at {st : Src} {R A : Sto} {jv : Nat} {vals : List Int} {r : Int} {Q : WK} (hv : R[jv]? = some (iLst vals)) (h0 : 0 ≤ r) (h1 : r < vals.length) (k : ∀ v : Int, v ∈ vals → Q (.int v) (SB st (R ++ A))) : vIxA (.ref (jv + 1 + 1 + 1)) (.int r) (SB st (R ++ A)) Q := by
  obtain ⟨x, hx, _, h⟩ := at_map (f := W.int) h0 h1
  rw [e_ixAL (sbR hv) h]
  exact k x hx
theorem vals_draw {st : Src} {R A : Sto} {jv : Nat} {vals : List Int} {Q : WK} {env : Slots} {i : Nat} (h2 : env[0]? = some (some (.ref 2))) (hi : env[i]? = some (some (.ref (jv + 1 + 1 + 1)))) (g : Good st) (hv : R[jv]? = some (iLst vals)) (v0 : 0 < vals.length) (v20 : vals.length ≤ 20) (k : ∀ (v : Int) st', Good st' → Q (.int v) (SB st' (R ++ A))) :
    dOp vIxA (dVar i) (dCall F_draw (aCons (dVar 0) (aCons (dCB vLenA (aCons (dVar i) aNil)) aNil))) env (SB st (R ++ A)) Q := by
  rw [e_op, e_var hi, e_call, e_cons, e_var h2, e_cons, e_cb, e_cons, e_var hi, e_nil, e_lenAL (sbR hv), e_nil, List.length_map]
  exact draw_ok g (by omega) (by omega) fun st2 r g2 r0 r1 => vals_at hv r0 r1 fun v _ => k v st2 g2
/-! ### _law_store -/
def F_store : DSpec := fun ws S Q => ∃ st R jv vals ts x1 ds x3 x4 many, ws = [.ref 2, houseW ts x1 ds x3 x4, .ref (jv + 1 + 1 + 1), .int many] ∧ S = SB st R ∧ Good st ∧ R[jv]? = some (iLst vals) ∧ 0 < vals.length ∧ vals.length ≤ 20 ∧ OkTabs ts ∧ 0 ≤ many ∧ many ≤ 10 ∧
  ∀ st' rows, Good st' → OkStore ts rows → Q (storeW rows) (SB st' R)
theorem vc_store : ∀ ws S Q, Closed S → F_store ws S Q → d_law_store F_draw (endsW S.length Q) (startW N_law_store.length ws) S := by
  rintro ws S Q cl ⟨st, R, jv, vals, ts, x1, ds, x3, x4, many, rfl, rfl, g, hv, v0, v20, okT, m0, m10, q⟩
  show d_law_store F_draw _ [some (.ref 2), some (houseW ts x1 ds x3 x4), some (.ref (jv + 1 + 1 + 1)), some (.int many), none, none, none, none, none, none, none] _
  unfold d_law_store
  have t1 := okT.t1
  have t4 := okT.t4
  walk_at "dl"
  refine ⟨by omega, by omega, ?_⟩
  refine forW_inv (fun i e s => ∃ (st2 : Src) (rows : List Row) (G : Sto) (x5 x6 x7 x8 x9 x10 : Option DL.W), Good st2 ∧ (∀ p ∈ rows, ∃ t ∈ ts, t.1 = p.1 ∧ p.2.length = t.2) ∧ rows.length ≤ 4 * i ∧ e = [some (.ref 2), some (houseW ts x1 ds x3 x4), some (.ref (jv + 1 + 1 + 1)), some (.int many), some (.ref (R.length + 0 + 1 + 1 + 1)), x5, x6, x7, x8, x9, x10] ∧ s = SB st2 (R ++ .lst (rows.map rowW) :: G))
    ⟨st, [], [], _, _, _, _, _, _, g, by simp, Nat.zero_le _, rfl, rfl⟩ ?_ ?_
  · rintro i x e s hx ⟨st2, rows, G, x5, x6, x7, x8, x9, x10, g2, hok, hl, rfl, rfl⟩ N hN
    obtain ⟨hi, rfl⟩ := rng_get hx
    refine ⟨trivial, ?_⟩
    rw [e_nm]
    refine seqI (fun e s => ∃ st3 t, Good st3 ∧ t ∈ ts ∧ e = [some (.ref 2), some (houseW ts x1 ds x3 x4), some (.ref (jv + 1 + 1 + 1)), some (.int many), some (.ref (R.length + 0 + 1 + 1 + 1)), some (.int (i : Int)), some (tabW t), x7, x8, x9, x10] ∧ s = SB st3 (R ++ .lst (rows.map rowW) :: G)) (fun N2 hN2 => ?_) ?_
    · walk_at "dl"
      refine draw_ok g2 (by omega) (by omega) fun st3 r g3 r0 r1 => ?_
      obtain ⟨t, htm, _, ht⟩ := at_map (f := tabW) r0 r1
      rw [e_ixAT ht]
      exact hN2 _ _ ⟨st3, t, g3, htm, rfl, rfl⟩
    rintro e s ⟨st3, t, g3, htm, rfl, rfl⟩
    have tw := okT.w t htm
    refine seqI (fun e s => ∃ (st3 : Src) (r : List Int) (G : Sto), Good st3 ∧ r.length = t.2 ∧ e = [some (.ref 2), some (houseW ts x1 ds x3 x4), some (.ref (jv + 1 + 1 + 1)), some (.int many), some (.ref (R.length + 0 + 1 + 1 + 1)), some (.int (i : Int)), some (tabW t), some (rowW (t.1, r)), x8, x9, x10] ∧ s = SB st3 (R ++ .lst (rows.map rowW) :: G)) (fun N2 hN2 => ?_) ?_
    · walk_at "dl"
      refine ⟨by omega, by omega, ?_⟩
      rw [Int.toNat_natCast, rng_map]
      refine compDrN (R := R ++ .lst (rows.map rowW) :: G) (P := fun _ w => ∃ v : Int, w = .int v) (fun _ => trivial) (by rw [List.length_range]; omega) g3 (fun k hk st4 g4 K hK => ?_) fun st4 ws g4 hl hP => ?_
      · exact vals_draw rfl rfl g4 hv v0 v20 fun v st' g' => hK _ _ g' ⟨v, rfl⟩
      · obtain ⟨vs, rfl, hvl⟩ := ints_of_at hl hP
        rw [List.length_range] at hvl
        rw [sb_len, sb_app, e_tupleL (sbA newA)]
        walk_at "dl"
        exact hN2 _ _ ⟨st4, vs, _, g4, hvl, rfl, rfl⟩
    clear g3 st3
    rintro e s ⟨st3, r, G, g3, hrl, rfl, rfl⟩
    refine seqI (fun e s => ∃ (G : Sto) (k : Nat), e = [some (.ref 2), some (houseW ts x1 ds x3 x4), some (.ref (jv + 1 + 1 + 1)), some (.int many), some (.ref (R.length + 0 + 1 + 1 + 1)), some (.int (i : Int)), some (tabW t), some (rowW (t.1, r)), some (.ref (R.length + (k + 1) + 1 + 1 + 1)), x9, x10] ∧ G[k]? = some (.lst (((ts.filter fun u => decide (u.2 = t.2)).map fun u => (u.1, r)).map rowW)) ∧ s = SB st3 (R ++ .lst (rows.map rowW) :: G)) (fun N2 hN2 => ?_) ?_
    · walk_at "dl"
      refine compN (S := SB st3 (R ++ .lst (rows.map rowW) :: G)) (h := fun u : Tab => rowW (u.1, r)) (p := fun u : Tab => decide (u.2 = t.2)) trivial (by omega) (fun u hu QT k => ?_) (fun u hu hp K k => ?_) ?_
      · walk_at "dl"
        rw [show decide ((u.2 : Int) = (t.2 : Int)) = decide (u.2 = t.2) from decide_eq_decide.mpr (by omega)]
        exact k
      · walk_at "dl"
        exact k
      · rw [sb_len, sb_app]
        refine hN2 _ _ ⟨G ++ [_], G.length, rfl, ?_, rfl⟩
        rw [List.map_map]
        exact newA
    rintro e s ⟨G, k, rfl, hk, rfl⟩
    have go : ∀ (us : List Row) (st4 : Src) (G : Sto) (kq : Nat), Good st4 → G[kq]? = some (.lst (us.map rowW)) → us.length ≤ 4 → (∀ p ∈ us, ∃ t ∈ ts, t.1 = p.1 ∧ p.2.length = t.2) → ∀ (x8 x9 x10 : Option DL.W) (D : DEnds), D.nx = N →
        forW (gNm 9) (dIfS (dB (dOp (vInP true) (dVar 9) (dVar 4))) (dDrop (dBM "list" vAppend (dVar 4) (aCons (dVar 9) aNil))) dNext) (fun S' => S'[R.length + (kq + 1) + 1 + 1 + 1]? = some (.lst (us.map rowW))) (us.map rowW) D [some (.ref 2), some (houseW ts x1 ds x3 x4), some (.ref (jv + 1 + 1 + 1)), some (.int many), some (.ref (R.length + 0 + 1 + 1 + 1)), some (.int (i : Int)), some (tabW t), some (rowW (t.1, r)), x8, x9, x10] (SB st4 (R ++ .lst (rows.map rowW) :: G)) := by
      intro us st4 G kq g4 hkq h4 hus x8 x9 x10 D hD
      have hG : ∀ rows' : List Row, (SB st4 (R ++ .lst (rows'.map rowW) :: G))[R.length + (kq + 1) + 1 + 1 + 1]? = some (.lst (us.map rowW)) := fun rows' => sbA (k := kq + 1) hkq
      have hO : ∀ rows' : List Row, (SB st4 (R ++ .lst (rows'.map rowW) :: G))[R.length + 0 + 1 + 1 + 1]? = some (.lst (rows'.map rowW)) := fun rows' => sbA (k := 0) rfl
      refine forW_inv (fun m e s => ∃ (rows' : List Row) (x9 : Option DL.W), (∀ p ∈ rows', ∃ t ∈ ts, t.1 = p.1 ∧ p.2.length = t.2) ∧ rows'.length ≤ 4 * i + m ∧ e = [some (.ref 2), some (houseW ts x1 ds x3 x4), some (.ref (jv + 1 + 1 + 1)), some (.int many), some (.ref (R.length + 0 + 1 + 1 + 1)), some (.int (i : Int)), some (tabW t), some (rowW (t.1, r)), x8, x9, x10] ∧ s = SB st4 (R ++ .lst (rows'.map rowW) :: G)) ⟨rows, _, hok, hl, rfl, rfl⟩ ?_ ?_
      · rintro m x e s hx ⟨rows', y9, hok', hl', rfl, rfl⟩ N3 hN3
        obtain ⟨u, hu, rfl, hum, hm⟩ := map_get hx
        have huo := hus u hum
        refine ⟨hG _, ?_⟩
        rw [e_nm, e_ifs, e_B, e_op, e_var rfl, e_var rfl]
        refine inP_std (k := rowKd) (k' := rowKd) (hO rows') (by obtain ⟨t, ht, e, _⟩ := huo; exact row_std (by rw [← e]; exact (okT.w t ht).2.2)) (row_isK u) (rows_std okT hok') (rows_isK rows') _ row_mem ?_
        walk_at "dl"
        split
        · refine ⟨lt_sz (by omega), hN3 _ _ ⟨rows' ++ [u], _, ?_, by simp; omega, rfl, ?_⟩⟩
          · intro p hp
            rcases List.mem_append.mp hp with h | h
            · exact hok' p h
            · rw [List.mem_singleton.mp h]
              exact huo
          · rw [List.map_append]
            rfl
        · exact hN3 _ _ ⟨rows', _, hok', by omega, rfl, rfl⟩
      · rintro e s ⟨rows', y9, hok', hl', rfl, rfl⟩
        rw [List.length_map] at hl'
        exact ⟨hG _, by rw [hD]; exact hN _ _ ⟨st4, rows', G, _, _, _, _, _, _, g4, hok', by omega, rfl, rfl⟩⟩
    walk_at "dl"
    refine draw_ok g3 (by decide) (by decide) fun st4 r4 g4 r40 r41 => ?_
    walk_at "dl"
    split
    · refine go [(t.1, r)] st4 (G ++ [.lst [rowW (t.1, r)]]) G.length g4 newA (by show 1 ≤ 4; decide) (by intro p hp; rw [List.mem_singleton.mp hp]; exact ⟨t, htm, rfl, hrl⟩) _ _ _ _ ?_
      rfl
    · rw [e_seqL (sbA (k := k + 1) hk)]
      refine go ((ts.filter fun u => decide (u.2 = t.2)).map fun u => (u.1, r)) st4 G k g4 hk ?_ ?_ _ _ _ _ ?_
      · rw [List.length_map]
        exact Nat.le_trans (List.length_filter_le _ _) t4
      · intro p hp
        obtain ⟨u, hu, rfl⟩ := List.mem_map.mp hp
        obtain ⟨hu1, hu2⟩ := List.mem_filter.mp hu
        exact ⟨u, hu1, rfl, by rw [of_decide_eq_true hu2]; exact hrl⟩
      · rfl
  · rintro e s ⟨st2, rows, G, x5, x6, x7, x8, x9, x10, g2, hok, hl, rfl, rfl⟩
    refine ⟨trivial, ?_⟩
    rw [rng_len] at hl
    have hl2 : rows.length ≤ 300 := by omega
    walk_at "dl"
    refine .inl (sorted_std (k := rowKd) (sbA (k := 0) rfl) (rows_std okT hok) (rows_isK rows) (.inl fun w hw => by obtain ⟨d, hd, rfl⟩ := List.mem_map.mp hw; exact ⟨_, _, rfl⟩) ?_)
    obtain ⟨es, he, hes⟩ := perm_map_inv (List.mergeSort_perm (rows.map rowW) leW) rows rfl
    have hasc := sort_asc (rows.map rowW)
    rw [he] at hasc ⊢
    rw [sb_len, sb_app, e_tupleL (sbA newA)]
    have okS : OkStore ts es := ⟨fun p hp => hok p (hes.mem_iff.mp hp), by rw [hes.length_eq]; exact hl2, hasc⟩
    exact endST _ cl (pureL_rows es) (q st2 es g2 okS)

end K25

namespace K25
open PySem PySem.Spec PyProof.Rows L2 TL DL
local macro_rules | `(tactic| walk_at "dl") => `(tactic| try simp (config := { decide := false }) only [e_seq, e_asg, e_nm, e_op, e_un, e_cb, e_c, e_var, e_ifs, e_tru, e_B, e_drop, e_bm, e_bm0, e_ret, e_retN, e_next, e_break, e_cont, e_nil, e_cons, e_tup, e_lst, e_sl, e_onone, e_osome, e_gsub, e_call, e_callk, e_and, e_or, e_not, e_andv, e_orv, e_notv, e_notU, e_isI, e_isS, e_isT, e_isR, e_isN, e_if, e_par, e_for, e_comp, e_iseq, e_rng1, e_rng3, e_zip, e_dictC, e_sc2, e_iseqF, e_yes, e_dictN, src_cells, src_great, src_rest, src_count, src_putR, src_putC, src_len, sz4l, e_nget1, e_nget2, e_lockN, e_dictCN, e_disp, e_ap0, e_ap1, e_gtp, e_gc, e_gn0,
  e_addI, e_addS, e_addT, e_addL, e_i20, e_i2, e_neg, e_cmpI, e_cmpS, e_eqI, e_eqS, e_eqB, e_ixT, e_ixLit, e_ixL, e_ixS, e_set, e_ixAT, e_ixALit, e_ixAL, e_ixAS, e_ixAD, e_setAL, e_setAD, e_dict0, e_inAL, e_inAT, e_inAD, e_inAS, e_listAT, e_listALit, e_listAL, e_listAD, e_max2, e_extend, e_isalpha, e_enum, keyW, sz0, sz1, sz2, sz3, sz4, sz5, sz6, O.dk.injEq, e_slT, e_slLit, e_slS, e_slL, e_lenAS, e_lenAT, e_lenALit, e_lenAL, e_lenAD, e_lenS, e_lenT, e_lenLit, e_lenL, e_i1, e_intI, e_intB, e_strI, e_strS, e_listT, e_listLit, e_listL, e_tupleT, e_tupleL, e_append, e_pop0, e_tyL, e_tyS, e_truL, e_truT, e_truB, e_truI, e_truS, e_truN, e_seqT, e_seqLit, e_seqL, e_in, e_inT, e_isi, kit_ll, kit_ss, kit_tt, kit_ii, kit_ib, tyW_L, tyW_S, tyW_T, tyW_I, tyW_B, cut_to1, cut_to2, cut_from1, wipeW_nil, wipeW_cons, Nat.reduceAdd, eq_self, List.map_cons, List.map_nil,
  atI_0, atI_1, atI_2, atI_3, atI_4, atI_5, atI_end, ixN_0, ixN_1, ixN_11, ixN_last, List.map_append, List.map_cons, List.map_nil, get_app, get_app0, set_app, set_app0, List.cons_append, List.nil_append, List.append_assoc, List.length_append, List.length_cons, List.length_nil, Nat.zero_add, List.length_map, List.length_set,
  List.getElem?_cons_zero, List.getElem?_cons_succ, List.set_cons_zero, List.set_cons_succ, Option.some.injEq, exists_eq_left', exists_eq_left, exists_and_left, W.int.injEq, W.bl.injEq, W.str.injEq, W.tup.injEq, W.ref.injEq, O.lst.injEq, List.cons.injEq, reduceCtorEq, false_and, exists_false, or_false, false_or, true_and, and_true, decide_eq_true_eq, Bool.false_xor, Bool.true_xor, Bool.not_eq_true', decide_eq_false_iff_not, List.isEmpty_cons, List.isEmpty_nil, Bool.not_true, Bool.not_false, if_true, if_false, not_true_eq_false, not_false_eq_true, ne_eq, Bool.false_eq_true, reduceIte])



/-! ### _law_wide -/
def F_wide : DSpec := fun ws S Q => ∃ st R ts x1 ds x3 x4, ws = [.ref 2, houseW ts x1 ds x3 x4] ∧ S = SB st R ∧ Good st ∧ OkTabs ts ∧
  ∀ st' rows, Good st' → OkStore ts rows → Q (storeW rows) (SB st' R)
theorem vc_wide : ∀ ws S Q, Closed S → F_wide ws S Q → d_law_wide F_draw (endsW S.length Q) (startW N_law_wide.length ws) S := by
  rintro ws S Q cl ⟨st, R, ts, x1, ds, x3, x4, rfl, rfl, g, okT, q⟩
  show d_law_wide F_draw _ [some (.ref 2), some (houseW ts x1 ds x3 x4), none, none, none, none, none, none, none] _
  unfold d_law_wide
  have t1 := okT.t1
  have t4 := okT.t4
  obtain ⟨big, hbig, hbigl⟩ : ∃ big : Nat, (300 : Int) / (ts.length : Int) = big ∧ ts.length * big ≤ 300 := ⟨300 / ts.length, by rw [Int.natCast_ediv]; rfl, Nat.mul_div_le 300 ts.length⟩
  have hb300 : big ≤ 300 := Nat.le_trans (Nat.le_mul_of_pos_left big t1) hbigl
  refine seqI (fun e s => e = [some (.ref 2), some (houseW ts x1 ds x3 x4), some (.ref (R.length + 0 + 1 + 1 + 1)), none, none, none, none, none, none] ∧ s = SB st (R ++ .lst ([].map rowW) :: [])) (fun N hN => ?_) ?_
  · walk_at "dl"
    exact hN _ _ ⟨rfl, rfl⟩
  rintro e s ⟨rfl, rfl⟩
  walk_at "dl"
  refine forM (fun pre e s => ∃ (st2 : Src) (rows : List Row) (G : Sto) (x3' x4' x5 x6 x7 x8 : Option DL.W), Good st2 ∧ (∀ p ∈ rows, ∃ t ∈ ts, t.1 = p.1 ∧ p.2.length = t.2) ∧ rows.length = pre.length * big ∧ e = [some (.ref 2), some (houseW ts x1 ds x3 x4), some (.ref (R.length + 0 + 1 + 1 + 1)), x3', x4', x5, x6, x7, x8] ∧ s = SB st2 (R ++ .lst (rows.map rowW) :: G))
    ⟨st, [], [], _, _, _, _, _, _, g, by simp, by simp, rfl, rfl⟩ ?_ ?_
  · rintro pre t post e s hpre ⟨st2, rows, G, y3, y4, y5, y6, y7, y8, g2, hok, hl, rfl, rfl⟩ N hN
    have htm : t ∈ ts := by rw [hpre]; simp
    have tw := okT.w t htm
    have hpl : pre.length < ts.length := by rw [hpre]; simp
    have hpl2 : (pre.length + 1) * big ≤ 300 := Nat.le_trans (Nat.mul_le_mul_right big hpl) hbigl
    refine ⟨trivial, ?_⟩
    walk_at "dl"
    refine ⟨⟨by omega, log_small ⟨by omega, by omega⟩⟩, ?_⟩
    rw [hbig]
    refine draw_ok g2 (by decide) (by decide) fun st3 r g3 r0 r1 => ?_
    walk_at "dl"
    refine ⟨by omega, by omega, ?_⟩
    rw [Int.toNat_natCast, rng_map]
    refine forM (fun pk e s => ∃ (rows' : List Row) (G : Sto) (x6 x7 x8 : Option DL.W), (∀ p ∈ rows', ∃ t ∈ ts, t.1 = p.1 ∧ p.2.length = t.2) ∧ rows'.length = pre.length * big + pk.length ∧ e = [some (.ref 2), some (houseW ts x1 ds x3 x4), some (.ref (R.length + 0 + 1 + 1 + 1)), some (tabW t), some (.int (big : Int)), some (.int (1 + r)), x6, x7, x8] ∧ s = SB st3 (R ++ .lst (rows'.map rowW) :: G))
      ⟨rows, G, _, _, _, hok, by rw [hl]; rfl, rfl, rfl⟩ ?_ ?_
    · rintro pk k post2 e s hpk ⟨rows', G, z6, z7, z8, hok', hl', rfl, rfl⟩ N2 hN2
      have hkl : pk.length < big := by
        have := congrArg List.length hpk
        rw [List.length_range] at this
        simp at this
        omega
      have hr300 : rows'.length < 300 := by
        have e : (pre.length + 1) * big = pre.length * big + big := by rw [Nat.add_mul, Nat.one_mul]
        omega
      refine ⟨trivial, ?_⟩
      walk_at "dl"
      refine ⟨by omega, by omega, ?_⟩
      rw [Int.toNat_natCast, rng_map]
      have hO : ∀ (rows' : List Row) (G : Sto), (SB st3 (R ++ .lst (rows'.map rowW) :: G))[R.length + 0 + 1 + 1 + 1]? = some (.lst (rows'.map rowW)) := fun rows' G => sbA (k := 0) rfl
      refine compM (S := SB st3 (R ++ .lst (rows'.map rowW) :: G)) (h := fun _ : Nat => W.int ((k : Int) * (1 + r) % 10)) trivial (by rw [List.length_range]; omega) (fun c hc K hK => ?_) ?_
      · walk_at "dl"
        exact ⟨cmulS (by omega) (by omega), by decide, hK⟩
      · obtain ⟨w, hw⟩ : ∃ w, t.2 = w + 1 := ⟨t.2 - 1, by omega⟩
        have ei : ixN ((List.range t.2).map fun _ : Nat => W.int ((k : Int) * (1 + r) % 10)).length (-1) = some w := by
          rw [List.length_map, List.length_range, hw]
          exact ixN_last
        rw [sb_len, sb_app]
        walk_at "dl"
        refine ⟨cmulS (by decide) (by decide), ?_⟩
        have ez : (List.range t.2).map (fun _ : Nat => W.int ((k : Int) * (1 + r) % 10)) = ((List.range t.2).map fun _ : Nat => (k : Int) * (1 + r) % 10).map W.int := by rw [List.map_map]; rfl
        rw [ez] at ei ⊢
        have hzl : ((List.range t.2).map fun _ : Nat => (k : Int) * (1 + r) % 10).length = t.2 := by rw [List.length_map, List.length_range]
        generalize ((List.range t.2).map fun _ : Nat => (k : Int) * (1 + r) % 10) = zs at ei hzl ⊢
        have hL : ∀ zs : List Int, (SB st3 (R ++ .lst (rows'.map rowW) :: (G ++ [.lst (zs.map W.int)])))[R.length + (G.length + 1) + 1 + 1 + 1]? = some (.lst (zs.map W.int)) := fun zs => sbA (k := G.length + 1) (newA (A := G))
        rw [e_setAL (hL zs) ei, sb_set]
        have es : (O.lst (rows'.map rowW) :: (G ++ [O.lst (zs.map W.int)])).set (G.length + 1) (O.lst ((zs.map W.int).set w (.int ((k : Int) * 3)))) = O.lst (rows'.map rowW) :: (G ++ [O.lst ((zs.set w ((k : Int) * 3)).map W.int)]) := by
          rw [List.set_cons_succ, set_app0, List.set_cons_zero, List.map_set]
        rw [es]
        refine ⟨by rw [e_tyL (hO _ _)]; trivial, ?_⟩
        rw [e_tupleL (hL _), e_append (hO _ _)]
        refine ⟨lt_sz (by rw [List.length_map]; omega), hN2 _ _ ⟨rows' ++ [(t.1, zs.set w ((k : Int) * 3))], G ++ [O.lst ((zs.set w ((k : Int) * 3)).map W.int)], _, _, _, ?_, ?_, rfl, ?_⟩⟩
        · intro p hp
          rcases List.mem_append.mp hp with h | h
          · exact hok' p h
          · rw [List.mem_singleton.mp h]
            exact ⟨t, htm, rfl, by rw [List.length_set]; exact hzl⟩
        · rw [List.length_append, hl', List.length_append]
          rfl
        · rw [sb_set (k := 0), List.set_cons_zero, List.map_append]
          rfl
    · rintro e s ⟨rows', G, z6, z7, z8, hok', hl', rfl, rfl⟩
      rw [List.length_range] at hl'
      refine ⟨trivial, hN _ _ ⟨st3, rows', G, _, _, _, _, _, _, g3, hok', ?_, rfl, rfl⟩⟩
      rw [hl', List.length_append, Nat.add_mul]
      simp
  · rintro e s ⟨st2, rows, G, y3, y4, y5, y6, y7, y8, g2, hok, hl, rfl, rfl⟩
    refine ⟨trivial, ?_⟩
    walk_at "dl"
    refine .inl (sorted_std (k := rowKd) (sbA (k := 0) rfl) (rows_std okT hok) (rows_isK rows) (.inl fun w hw => by obtain ⟨d, hd, rfl⟩ := List.mem_map.mp hw; exact ⟨_, _, rfl⟩) ?_)
    obtain ⟨es, he, hes⟩ := perm_map_inv (List.mergeSort_perm (rows.map rowW) leW) rows rfl
    have hasc := sort_asc (rows.map rowW)
    rw [he] at hasc ⊢
    rw [sb_len, sb_app, e_tupleL (sbA newA)]
    have okS : OkStore ts es := ⟨fun p hp => hok p (hes.mem_iff.mp hp), by rw [hes.length_eq, hl]; exact hbigl, hasc⟩
    exact endST _ cl (pureL_rows es) (q st2 es g2 okS)

end K25

namespace K25
open PySem PySem.Spec PyProof.Rows L2 TL DL
local macro_rules | `(tactic| walk_at "dl") => `(tactic| try simp (config := { decide := false }) only [e_seq, e_asg, e_nm, e_op, e_un, e_cb, e_c, e_var, e_ifs, e_tru, e_B, e_drop, e_bm, e_bm0, e_ret, e_retN, e_next, e_break, e_cont, e_nil, e_cons, e_tup, e_lst, e_sl, e_onone, e_osome, e_gsub, e_call, e_callk, e_and, e_or, e_not, e_andv, e_orv, e_notv, e_notU, e_isI, e_isS, e_isT, e_isR, e_isN, e_if, e_par, e_for, e_comp, e_iseq, e_rng1, e_rng3, e_zip, e_dictC, e_sc2, e_iseqF, e_yes, e_dictN, src_cells, src_great, src_rest, src_count, src_putR, src_putC, src_len, sz4l, e_nget1, e_nget2, e_lockN, e_dictCN, e_disp, e_ap0, e_ap1, e_gtp, e_gc, e_gn0,
  e_addI, e_addS, e_addT, e_addL, e_i20, e_i2, e_neg, e_cmpI, e_cmpS, e_eqI, e_eqS, e_eqB, e_ixT, e_ixLit, e_ixL, e_ixS, e_set, e_ixAT, e_ixALit, e_ixAL, e_ixAS, e_ixAD, e_setAL, e_setAD, e_dict0, e_inAL, e_inAT, e_inAD, e_inAS, e_listAT, e_listALit, e_listAL, e_listAD, e_max2, e_extend, e_isalpha, e_enum, keyW, sz0, sz1, sz2, sz3, sz4, sz5, sz6, O.dk.injEq, e_slT, e_slLit, e_slS, e_slL, e_lenAS, e_lenAT, e_lenALit, e_lenAL, e_lenAD, e_lenS, e_lenT, e_lenLit, e_lenL, e_i1, e_intI, e_intB, e_strI, e_strS, e_listT, e_listLit, e_listL, e_tupleT, e_tupleL, e_append, e_pop0, e_tyL, e_tyS, e_truL, e_truT, e_truB, e_truI, e_truS, e_truN, e_seqT, e_seqLit, e_seqL, e_in, e_inT, e_isi, kit_ll, kit_ss, kit_tt, kit_ii, kit_ib, tyW_L, tyW_S, tyW_T, tyW_I, tyW_B, cut_to1, cut_to2, cut_from1, wipeW_nil, wipeW_cons, Nat.reduceAdd, eq_self, List.map_cons, List.map_nil,
  atI_0, atI_1, atI_2, atI_3, atI_4, atI_5, atI_end, ixN_0, ixN_1, ixN_11, ixN_last, List.map_append, List.map_cons, List.map_nil, get_app, get_app0, set_app, set_app0, List.cons_append, List.nil_append, List.append_assoc, List.length_append, List.length_cons, List.length_nil, Nat.zero_add, List.length_map, List.length_set,
  List.getElem?_cons_zero, List.getElem?_cons_succ, List.set_cons_zero, List.set_cons_succ, Option.some.injEq, exists_eq_left', exists_eq_left, exists_and_left, W.int.injEq, W.bl.injEq, W.str.injEq, W.tup.injEq, W.ref.injEq, O.lst.injEq, List.cons.injEq, reduceCtorEq, false_and, exists_false, or_false, false_or, true_and, and_true, decide_eq_true_eq, Bool.false_xor, Bool.true_xor, Bool.not_eq_true', decide_eq_false_iff_not, List.isEmpty_cons, List.isEmpty_nil, Bool.not_true, Bool.not_false, if_true, if_false, not_true_eq_false, not_false_eq_true, ne_eq, Bool.false_eq_true, reduceIte])


/-! ### rows that a call meets -/
def rowsOf (rows : List Row) (T : Str) : List (List Int) := (rows.filter fun p => decide (p.1 = T)).map (·.2)
def told (cols : List Nat) (r : List Int) : List Int := cols.map fun c => r.getD c 0
def meets (rows : List Row) (d : Door) (call : List Int) : List (List Int) := (rowsOf rows d.table).filter fun r => decide (told d.cols r = call)
theorem rowsOf_ok {ts : List Tab} (okT : OkTabs ts) {rows : List Row} (okS : OkStore ts rows) {d : Door} (hd : OkDoor ts d) : ∀ r ∈ rowsOf rows d.table, 0 < r.length ∧ ∀ c ∈ d.cols, c < r.length := by
  intro r hr
  obtain ⟨p, hp, rfl⟩ := List.mem_map.mp hr
  obtain ⟨hp1, hp2⟩ := List.mem_filter.mp hp
  obtain ⟨t, ht, e1, e2⟩ := okS.ok p hp1
  obtain ⟨u, hu, e3, e4⟩ := hd.tab
  have e : u = t := tab_uniq okT.nd hu ht (by rw [e3, e1]; exact (of_decide_eq_true hp2).symm)
  subst e
  rw [e2]
  exact ⟨(okT.w u hu).1, e4⟩
theorem rowsOf_len {rows : List Row} {T : Str} : (rowsOf rows T).length ≤ rows.length := by
  unfold rowsOf
  rw [List.length_map]
  exact List.length_filter_le _ _
theorem rowsOf_asc {ts : List Tab} (okT : OkTabs ts) {rows : List Row} (okS : OkStore ts rows) (T : Str) : ((rowsOf rows T).map intsT).Pairwise fun a b => leW a b = true := by
  have h := List.pairwise_map.mp okS.asc
  unfold rowsOf
  rw [List.map_map, List.pairwise_map]
  refine List.Pairwise.imp_of_mem (fun {p q} hp hq hpq => ?_) (h.sublist List.filter_sublist)
  obtain ⟨hp1, hp2⟩ := List.mem_filter.mp hp
  obtain ⟨_, hq2⟩ := List.mem_filter.mp hq
  have e : p.1 = q.1 := (of_decide_eq_true hp2).trans (of_decide_eq_true hq2).symm
  obtain ⟨t, ht, e1, _⟩ := okS.ok p hp1
  have sp : (W.str p.1).std = true := by rw [← e1]; exact (okT.w t ht).2.2
  have z : leW (.tup (W.str p.1 :: [intsT p.2])) (.tup (W.str q.1 :: [intsT q.2])) = true := hpq
  rw [← e, leW_tail (k := .s) sp ⟨_, rfl⟩] at z
  exact leW_fst (k := .seq .i) (std_ints _) (std_ints _) (isK_ints _) (isK_ints _) z
theorem meets_asc {ts : List Tab} (okT : OkTabs ts) {rows : List Row} (okS : OkStore ts rows) (d : Door) (call : List Int) : ((meets rows d call).map intsT).Pairwise fun a b => leW a b = true := by
  have h := List.pairwise_map.mp (rowsOf_asc okT okS d.table)
  rw [List.pairwise_map]
  exact h.sublist List.filter_sublist
theorem ints_sort {us : List (List Int)} (h : (us.map intsT).Pairwise fun a b => leW a b = true) : (us.map intsT).mergeSort leW = us.map intsT :=
  List.mergeSort_of_pairwise h
theorem ints_all_std (us : List (List Int)) : ∀ w ∈ us.map intsT, w.std = true := fun w hw => by
  obtain ⟨d, _, rfl⟩ := List.mem_map.mp hw
  exact std_ints d
theorem ints_all_K (us : List (List Int)) : ∀ w ∈ us.map intsT, IsK (.seq .i) w := fun w hw => by
  obtain ⟨d, _, rfl⟩ := List.mem_map.mp hw
  exact isK_ints d
theorem ints_cons {us : List (List Int)} (h : ∀ r ∈ us, 0 < r.length) : ∀ w ∈ us.map intsT, ∃ x r, w = .tup (x :: r) := fun w hw => by
  obtain ⟨d, hd, rfl⟩ := List.mem_map.mp hw
  cases d with
  | nil => exact absurd (h [] hd) (Nat.lt_irrefl _)
  | cons a d => exact ⟨_, _, rfl⟩
theorem pureL_intsT (us : List (List Int)) : W.pureL (us.map intsT) = true := pureL_of fun w hw => by
  obtain ⟨d, _, rfl⟩ := List.mem_map.mp hw
  exact pureL_ints d
/-- values[c] for c in door[2] -/
theorem told_comp {cols : List Nat} {r : List Int} (h : ∀ c ∈ cols, c < r.length) (hl : cols.length ≤ 4) {still : Sto → Prop} {S : Sto} {Q : WK} {env : Slots} {i j : Nat} {vs : List Nat} (hs : still S) (hj : ((wipeW env vs).set i none)[j]? = some (some (intsT r))) (hij : i ≠ j) (hi : i < env.length)
    (q : Q (.ref S.length) (S ++ [.lst ((told cols r).map W.int)])) : compW (gNm i) dYes (dOp vIxA (dVar j) (dVar i)) vs still env Q (colsW cols) [] S := by
  refine compM (h := fun c : Nat => W.int (r.getD c 0)) hs (by omega) (fun c hc K hK => ?_) (by unfold told at q; rw [List.map_map] at q; exact q)
  have wl : ∀ vs : List Nat, (wipeW env vs).length = env.length := by
    intro vs
    induction vs with
    | nil => rfl
    | cons v vs ih => rw [wipeW_cons, List.length_set, ih]
  have h1 : ((wipeW env vs).set i (some (W.int (c : Int))))[j]? = some (some (intsT r)) := by
    rw [List.getElem?_set_ne hij] at hj ⊢
    exact hj
  have h2 : ((wipeW env vs).set i (some (W.int (c : Int))))[i]? = some (some (W.int (c : Int))) := List.getElem?_set_self (by rw [wl]; exact hi)
  have hcl := h c hc
  rw [e_op, e_var h1, e_var h2, e_ixAT (w := W.int (r.getD c 0)) (atI_nat ?_)]
  · exact hK
  · rw [List.getElem?_map, List.getD_eq_getElem?_getD, List.getElem?_eq_getElem hcl]
    rfl
/-! ### _law_meets -/
theorem endL {S T : Sto} {Q : WK} {k : Nat} {ws : List DL.W} (cl : Closed S) (hk : T[k]? = some (.lst ws)) (hp : W.pureL ws = true) (q : Q (.ref S.length) (S ++ [.lst ws])) : Ends0 S.length Q (.ref (S.length + k)) (S ++ T) := Ends0.last (Nat.le_refl _) cl hk hp q
theorem endLast {S T : Sto} {Q : WK} {ws : List DL.W} (cl : Closed S) (hp : W.pureL ws = true) (q : Q (.ref S.length) (S ++ [.lst ws])) : Ends0 S.length Q (.ref (S ++ T).length) (S ++ T ++ [.lst ws]) := by
  rw [List.length_append, List.append_assoc]
  exact endL cl newA hp q
theorem endAs {S A B C : Sto} : S ++ A ++ B ++ C = S ++ (A ++ B ++ C) := by simp
def F_meets : DSpec := fun ws S Q => ∃ w0 ts rows d call, ws = [w0, storeW rows, doorW d, intsT call] ∧ OkTabs ts ∧ OkStore ts rows ∧ OkDoor ts d ∧ Q (.ref S.length) (S ++ [.lst ((meets rows d call).map intsT)])
theorem vc_meets : ∀ ws S Q, Closed S → F_meets ws S Q → d_law_meets (endsW S.length Q) (startW N_law_meets.length ws) S := by
  rintro ws S Q cl ⟨w0, ts, rows, d, call, rfl, okT, okS, okD, q⟩
  show d_law_meets _ [some w0, some (storeW rows), some (doorW d), some (intsT call), none, none, none] _
  unfold d_law_meets
  refine seqI (fun e s => e = [some w0, some (storeW rows), some (doorW d), some (intsT call), some (.ref S.length), none, none] ∧ s = S ++ [.lst ((rowsOf rows d.table).map intsT)]) (fun N hN => ?_) ?_
  · walk_at "dl"
    refine compN (h := fun p : Row => intsT p.2) (p := fun p : Row => decide (p.1 = d.table)) trivial (by have := okS.len; omega) (fun p hp QT k => ?_) (fun p hp hp2 K k => ?_) ?_
    · walk_at "dl"
      exact k
    · walk_at "dl"
      exact k
    · walk_at "dl"
      refine hN _ _ ⟨rfl, ?_⟩
      unfold rowsOf
      rw [List.map_map]
      rfl
  rintro e s ⟨rfl, rfl⟩
  have hR : ∀ G, (S ++ .lst ((rowsOf rows d.table).map intsT) :: G)[S.length]? = some (.lst ((rowsOf rows d.table).map intsT)) := fun G => get_app0
  walk_at "dl"
  refine compNG (S := S ++ [.lst ((rowsOf rows d.table).map intsT)]) (xs := rowsOf rows d.table) (f := intsT) (h := intsT) (p := fun r => decide (told d.cols r = call)) ?_ (by have := rowsOf_len (rows := rows) (T := d.table); have := okS.len; omega) (fun r hr G QT k => ?_) (fun r hr hp G K k => ?_) ?_
  · intro G
    rw [List.append_assoc]
    exact hR G
  · walk_at "dl"
    refine told_comp (rowsOf_ok okT okS okD r hr).2 okD.len trivial rfl (by decide) (by show 6 < 7; decide) ?_
    rw [e_tupleL newA]
    refine eq_ints ⟨_, rfl, ?_⟩
    rw [Bool.false_xor]
    have z := k (G ++ [.lst ((told d.cols r).map W.int)])
    rw [List.append_assoc] at z
    rw [List.append_assoc]
    exact z
  · rw [e_var rfl]
    exact k G
  · intro G
    refine .inl (sorted_std (k := .seq .i) newA (ints_all_std _) (ints_all_K _) (.inl (ints_cons fun r hr => (rowsOf_ok okT okS okD r (List.mem_filter.mp hr).1).1)) ?_)
    have em := ints_sort (meets_asc okT okS d call)
    unfold meets at em
    rw [em, endAs]
    exact endLast cl (pureL_intsT _) q

/-! ### _law_width -/
def F_width : DSpec := fun ws S Q => ∃ (ts : List Tab) (x1 x2 x3 x4 x5 : DL.W) (t : Tab), ws = [.tup [.tup (ts.map tabW), x1, x2, x3, x4, x5], .str t.1] ∧ (ts.map (·.1)).Nodup ∧ t ∈ ts ∧ Q (.int (t.2 : Int)) S
theorem vc_width : ∀ ws S Q, Closed S → F_width ws S Q → d_law_width (endsW S.length Q) (startW N_law_width.length ws) S := by
  rintro ws S Q cl ⟨ts, x1, x2, x3, x4, x5, t, rfl, nd, htm, q⟩
  show d_law_width _ [some (.tup [.tup (ts.map tabW), x1, x2, x3, x4, x5]), some (.str t.1), none] _
  unfold d_law_width
  walk_at "dl"
  refine forM (fun pre e s => t ∉ pre ∧ s = S ∧ ∃ x2', e = [some (.tup [.tup (ts.map tabW), x1, x2, x3, x4, x5]), some (.str t.1), x2']) ⟨by simp, rfl, _, rfl⟩ ?_ ?_
  · rintro pre u post e s hpre ⟨hn, rfl, x2', rfl⟩ N hN
    refine ⟨trivial, ?_⟩
    have hum : u ∈ ts := by rw [hpre]; simp
    walk_at "dl"
    split
    · rename_i he
      have e := tab_uniq nd hum htm he
      subst e
      exact Ends0.keep (Nat.le_refl _) cl rfl q
    · rename_i he
      refine hN _ _ ⟨fun h => ?_, rfl, _, rfl⟩
      rcases List.mem_append.mp h with h | h
      · exact hn h
      · exact he (by rw [List.mem_singleton.mp h])
  · rintro e s ⟨hn, _⟩
    exact absurd htm hn
/-! ### _law_calls -/
def F_calls : DSpec := fun ws S Q => ∃ st R w0 ts rows jv vals d, ws = [.ref 2, w0, storeW rows, .ref (jv + 1 + 1 + 1), doorW d] ∧ S = SB st R ∧ Good st ∧ R[jv]? = some (iLst vals) ∧ 0 < vals.length ∧ vals.length ≤ 20 ∧ OkTabs ts ∧ OkStore ts rows ∧ OkDoor ts d ∧
  ∀ st' (calls : List (List Int)), Good st' → calls.length = 3 → (∀ c ∈ calls, c.length = d.cols.length) → Q (.ref (R.length + 1 + 1 + 1)) (SB st' (R ++ [.lst (calls.map intsT)]))
theorem vc_calls : ∀ ws S Q, Closed S → F_calls ws S Q → d_law_calls F_draw (endsW S.length Q) (startW N_law_calls.length ws) S := by
  rintro ws S Q cl ⟨st, R, w0, ts, rows, jv, vals, d, rfl, rfl, g, hv, v0, v20, okT, okS, okD, q⟩
  show d_law_calls F_draw _ [some (.ref 2), some w0, some (storeW rows), some (.ref (jv + 1 + 1 + 1)), some (doorW d), none, none, none, none, none, none] _
  unfold d_law_calls
  have hrl : (rowsOf rows d.table).length ≤ 300 := Nat.le_trans rowsOf_len okS.len
  have hdl := okD.len
  refine seqI (fun e s => e = [some (.ref 2), some w0, some (storeW rows), some (.ref (jv + 1 + 1 + 1)), some (doorW d), some (.ref (R.length + 0 + 1 + 1 + 1)), none, none, none, none, none] ∧ s = SB st (R ++ [.lst ((rowsOf rows d.table).map intsT)])) (fun N hN => ?_) ?_
  · walk_at "dl"
    refine compN (S := SB st R) (h := fun p : Row => intsT p.2) (p := fun p : Row => decide (p.1 = d.table)) trivial (by have := okS.len; omega) (fun p hp QT k => ?_) (fun p hp hp2 K k => ?_) ?_
    · walk_at "dl"
      exact k
    · walk_at "dl"
      exact k
    · walk_at "dl"
      refine hN _ _ ⟨rfl, ?_⟩
      unfold rowsOf
      rw [List.map_map]
      rfl
  rintro e s ⟨rfl, rfl⟩
  refine seqI (fun e s => e = [some (.ref 2), some w0, some (storeW rows), some (.ref (jv + 1 + 1 + 1)), some (doorW d), some (.ref (R.length + 0 + 1 + 1 + 1)), some (.ref (R.length + 1 + 1 + 1 + 1)), none, none, none, none] ∧ s = SB st (R ++ .lst ((rowsOf rows d.table).map intsT) :: .lst (([] : List (List Int)).map intsT) :: [])) (fun N hN => ?_) ?_
  · walk_at "dl"
    exact hN _ _ ⟨rfl, rfl⟩
  rintro e s ⟨rfl, rfl⟩
  walk_at "dl"
  refine ⟨by decide, by decide, ?_⟩
  have hO : ∀ (st2 : Src) (calls : List (List Int)) (G : Sto), (SB st2 (R ++ .lst ((rowsOf rows d.table).map intsT) :: .lst (calls.map intsT) :: G))[R.length + 1 + 1 + 1 + 1]? = some (.lst (calls.map intsT)) := fun st2 calls G => sbA (k := 1) rfl
  have hR : ∀ (st2 : Src) (calls : List (List Int)) (G : Sto), (SB st2 (R ++ .lst ((rowsOf rows d.table).map intsT) :: .lst (calls.map intsT) :: G))[R.length + 0 + 1 + 1 + 1]? = some (.lst ((rowsOf rows d.table).map intsT)) := fun st2 calls G => sbA (k := 0) rfl
  refine forW_inv (fun i e s => ∃ (st2 : Src) (calls : List (List Int)) (G : Sto) (x7 x8 x9 x10 : Option DL.W), Good st2 ∧ calls.length = i ∧ (∀ c ∈ calls, c.length = d.cols.length) ∧ e = [some (.ref 2), some w0, some (storeW rows), some (.ref (jv + 1 + 1 + 1)), some (doorW d), some (.ref (R.length + 0 + 1 + 1 + 1)), some (.ref (R.length + 1 + 1 + 1 + 1)), x7, x8, x9, x10] ∧ s = SB st2 (R ++ .lst ((rowsOf rows d.table).map intsT) :: .lst (calls.map intsT) :: G))
    ⟨st, [], [], _, _, _, _, g, rfl, by simp, rfl, rfl⟩ ?_ ?_
  · rintro i x e s hx ⟨st2, calls, G, x7, x8, x9, x10, g2, hl, hc, rfl, rfl⟩ N hN
    obtain ⟨hi, rfl⟩ := rng_get hx
    have hi : i < 3 := hi
    refine ⟨trivial, ?_⟩
    rw [e_nm]
    refine seqI (fun e s => ∃ (st2 : Src) (c : List Int) (G : Sto) (x9 : Option DL.W), Good st2 ∧ c.length = d.cols.length ∧ e = [some (.ref 2), some w0, some (storeW rows), some (.ref (jv + 1 + 1 + 1)), some (doorW d), some (.ref (R.length + 0 + 1 + 1 + 1)), some (.ref (R.length + 1 + 1 + 1 + 1)), some (.int (i : Int)), some (intsT c), x9, x10] ∧ s = SB st2 (R ++ .lst ((rowsOf rows d.table).map intsT) :: .lst (calls.map intsT) :: G)) (fun N2 hN2 => ?_) ?_
    · walk_at "dl"
      refine compDrN (R := R ++ .lst ((rowsOf rows d.table).map intsT) :: .lst (calls.map intsT) :: G) (P := fun _ w => ∃ v : Int, w = .int v) (fun _ => trivial) (by omega) g2 (fun k hk st4 g4 K hK => ?_) fun st4 ws g4 hl hP => ?_
      · exact vals_draw rfl rfl g4 hv v0 v20 fun v st' g' => hK _ _ g' ⟨v, rfl⟩
      · obtain ⟨vs, rfl, hvl⟩ := ints_of_at hl hP
        rw [sb_len, sb_app, e_tupleL (sbA newA)]
        walk_at "dl"
        exact hN2 _ _ ⟨st4, vs, _, _, g4, hvl, rfl, rfl⟩
    clear g2 st2
    rintro e s ⟨st2, c, G, y9, g2, hcl, rfl, rfl⟩
    refine seqI (fun e s => ∃ (st2 : Src) (c : List Int) (G : Sto) (x9 : Option DL.W), Good st2 ∧ c.length = d.cols.length ∧ e = [some (.ref 2), some w0, some (storeW rows), some (.ref (jv + 1 + 1 + 1)), some (doorW d), some (.ref (R.length + 0 + 1 + 1 + 1)), some (.ref (R.length + 1 + 1 + 1 + 1)), some (.int (i : Int)), some (intsT c), x9, x10] ∧ s = SB st2 (R ++ .lst ((rowsOf rows d.table).map intsT) :: .lst (calls.map intsT) :: G)) (fun N2 hN2 => ?_) ?_
    · rw [e_ifs, e_and, e_B, e_op, e_cb, e_cons, e_var rfl, e_nil, e_lenAL (hR _ _ _), List.length_map]
      walk_at "dl"
      split
      · rename_i h0
        split
        · refine draw_ok (many := ((rowsOf rows d.table).length : Int)) g2 (by omega) (by omega) fun st3 r g3 r0 r1 => ?_
          obtain ⟨row, hrm, _, hrow⟩ := at_map (f := intsT) r0 r1
          rw [e_ixAL (hR _ _ _) hrow]
          walk_at "dl"
          refine told_comp (S := SB st3 (R ++ .lst ((rowsOf rows d.table).map intsT) :: .lst (calls.map intsT) :: G)) (rowsOf_ok okT okS okD row hrm).2 hdl trivial rfl (by decide) (by show 10 < 11; decide) ?_
          rw [sb_len, sb_app, e_tupleL (sbA newA)]
          exact hN2 _ _ ⟨st3, told d.cols row, _, _, g3, List.length_map _, rfl, rfl⟩
        · exact hN2 _ _ ⟨st2, c, G, _, g2, hcl, rfl, rfl⟩
      · exact hN2 _ _ ⟨st2, c, G, _, g2, hcl, rfl, rfl⟩
    clear g2 st2
    rintro e s ⟨st2, c, G, y9, g2, hcl, rfl, rfl⟩
    rw [e_drop, e_bm, e_var rfl]
    refine ⟨by rw [e_tyL (hO _ _ _)]; trivial, ?_⟩
    rw [e_cons, e_var rfl, e_nil, e_append (hO _ _ _)]
    refine ⟨lt_sz (by rw [List.length_map]; omega), hN _ _ ⟨st2, calls ++ [c], G, _, _, _, _, g2, by simp [hl], ?_, rfl, ?_⟩⟩
    · intro x hx
      rcases List.mem_append.mp hx with h | h
      · exact hc x h
      · rw [List.mem_singleton.mp h]
        exact hcl
    · rw [sb_set (k := 1), List.set_cons_succ, List.set_cons_zero, List.map_append]
      rfl
  · rintro e s ⟨st2, calls, G, x7, x8, x9, x10, g2, hl, hc, rfl, rfl⟩
    refine ⟨trivial, ?_⟩
    walk_at "dl"
    exact endSL (k := 1) cl rfl rfl (pureL_intsT _) (q st2 calls g2 hl hc)

end K25

namespace K25
open PySem PySem.Spec PyProof.Rows L2 TL DL
local macro_rules | `(tactic| walk_at "dl") => `(tactic| try simp (config := { decide := false }) only [e_seq, e_asg, e_nm, e_op, e_un, e_cb, e_c, e_var, e_ifs, e_tru, e_B, e_drop, e_bm, e_bm0, e_ret, e_retN, e_next, e_break, e_cont, e_nil, e_cons, e_tup, e_lst, e_sl, e_onone, e_osome, e_gsub, e_call, e_callk, e_and, e_or, e_not, e_andv, e_orv, e_notv, e_notU, e_isI, e_isS, e_isT, e_isR, e_isN, e_if, e_par, e_for, e_comp, e_iseq, e_rng1, e_rng3, e_zip, e_dictC, e_sc2, e_iseqF, e_yes, e_dictN, src_cells, src_great, src_rest, src_count, src_putR, src_putC, src_len, sz4l, e_nget1, e_nget2, e_lockN, e_dictCN, e_disp, e_ap0, e_ap1, e_gtp, e_gc, e_gn0,
  e_addI, e_addS, e_addT, e_addL, e_i20, e_i2, e_neg, e_cmpI, e_cmpS, e_eqI, e_eqS, e_eqB, e_ixT, e_ixLit, e_ixL, e_ixS, e_set, e_ixAT, e_ixALit, e_ixAL, e_ixAS, e_ixAD, e_setAL, e_setAD, e_dict0, e_inAL, e_inAT, e_inAD, e_inAS, e_listAT, e_listALit, e_listAL, e_listAD, e_max2, e_extend, e_isalpha, e_enum, keyW, sz0, sz1, sz2, sz3, sz4, sz5, sz6, O.dk.injEq, e_slT, e_slLit, e_slS, e_slL, e_lenAS, e_lenAT, e_lenALit, e_lenAL, e_lenAD, e_lenS, e_lenT, e_lenLit, e_lenL, e_i1, e_intI, e_intB, e_strI, e_strS, e_listT, e_listLit, e_listL, e_tupleT, e_tupleL, e_append, e_pop0, e_tyL, e_tyS, e_truL, e_truT, e_truB, e_truI, e_truS, e_truN, e_seqT, e_seqLit, e_seqL, e_in, e_inT, e_isi, kit_ll, kit_ss, kit_tt, kit_ii, kit_ib, tyW_L, tyW_S, tyW_T, tyW_I, tyW_B, cut_to1, cut_to2, cut_from1, wipeW_nil, wipeW_cons, Nat.reduceAdd, eq_self, List.map_cons, List.map_nil,
  atI_0, atI_1, atI_2, atI_3, atI_4, atI_5, atI_end, ixN_0, ixN_1, ixN_11, ixN_last, List.map_append, List.map_cons, List.map_nil, get_app, get_app0, set_app, set_app0, List.cons_append, List.nil_append, List.append_assoc, List.length_append, List.length_cons, List.length_nil, Nat.zero_add, List.length_map, List.length_set,
  List.getElem?_cons_zero, List.getElem?_cons_succ, List.set_cons_zero, List.set_cons_succ, Option.some.injEq, exists_eq_left', exists_eq_left, exists_and_left, W.int.injEq, W.bl.injEq, W.str.injEq, W.tup.injEq, W.ref.injEq, O.lst.injEq, List.cons.injEq, reduceCtorEq, false_and, exists_false, or_false, false_or, true_and, and_true, decide_eq_true_eq, Bool.false_xor, Bool.true_xor, Bool.not_eq_true', decide_eq_false_iff_not, List.isEmpty_cons, List.isEmpty_nil, Bool.not_true, Bool.not_false, if_true, if_false, not_true_eq_false, not_false_eq_true, ne_eq, Bool.false_eq_true, reduceIte])


/-! ### picks -/
abbrev Pick := Str × List Int × List Int
abbrev pkeyW (n : Str) (c : List Int) : DL.W := .tup [.str n, intsT c]
abbrev pickW (p : Pick) : DL.W := .tup [.str p.1, intsT p.2.1, intsT p.2.2]
abbrev kvP (p : Pick) : DL.W × DL.W := (pkeyW p.1 p.2.1, intsT p.2.2)
theorem hk_pkey (n : Str) (c : List Int) : HkW (pkeyW n c) := by
  refine ⟨?_, ?_, _, rfl⟩
  · show (true && (W.hkL (c.map W.int) && true)) = true
    rw [hk_ints]
    rfl
  · show NestedKey.depthAll [.text n, .tup (nkWs (c.map W.int))] + 1 ≤ 8
    show max 0 (max (NestedKey.depthAll (nkWs (c.map W.int)) + 1) 0) + 1 ≤ 8
    rw [dep_ints]
    decide
theorem nk_pkey {n m : Str} {c e : List Int} : nkW (pkeyW n c) = nkW (pkeyW m e) ↔ n = m ∧ c = e := by
  refine ⟨fun h => ?_, fun ⟨h1, h2⟩ => by rw [h1, h2]⟩
  have h2 : NestedKey.tup [.text n, .tup (nkWs (c.map W.int))] = NestedKey.tup [.text m, .tup (nkWs (e.map W.int))] := h
  injection h2 with h3
  obtain ⟨h4, h5⟩ := List.cons.inj h3
  have h6 : n = m := by injection h4
  have h7 : NestedKey.tup (nkWs (c.map W.int)) = NestedKey.tup (nkWs (e.map W.int)) := (List.cons.inj h5).1
  injection h7 with h8
  exact ⟨h6, nkWs_ints c e h8⟩
structure OkPicks (ps : List Pick) : Prop where
  nd : (ps.map fun p => (p.1, p.2.1)).Nodup
  ok : ∀ p ∈ ps, PyData.strOk p.1 = true
def putP (ps : List Pick) (q : Pick) : List Pick := if (q.1, q.2.1) ∈ ps.map (fun p => (p.1, p.2.1)) then ps.map fun p => if (p.1, p.2.1) = (q.1, q.2.1) then q else p else ps ++ [q]
theorem valP {ps : List Pick} {n : Str} {c : List Int} : valN (ps.map kvP) (pkeyW n c) = (ps.find? fun p => decide ((p.1, p.2.1) = (n, c))).map fun p => intsT p.2.2 := by
  unfold valN
  induction ps with
  | nil => rfl
  | cons p ps ih =>
    rw [List.map_cons, List.find?_cons, List.find?_cons]
    by_cases h : (p.1, p.2.1) = (n, c)
    · have h2 : nkW (kvP p).1 = nkW (pkeyW n c) := nk_pkey.mpr (Prod.mk.injEq _ _ _ _ ▸ h)
      rw [decide_eq_true h, decide_eq_true h2]
      rfl
    · have h2 : ¬ nkW (kvP p).1 = nkW (pkeyW n c) := fun e => h (by obtain ⟨a, b⟩ := nk_pkey.mp e; rw [a, b])
      rw [decide_eq_false h, decide_eq_false h2]
      exact ih
theorem putN_P {ps : List Pick} {q : Pick} : putN (ps.map kvP) (pkeyW q.1 q.2.1) (intsT q.2.2) = (putP ps q).map kvP := by
  unfold putN putP
  rw [valP, Option.isSome_map]
  by_cases h : (q.1, q.2.1) ∈ ps.map (fun p => (p.1, p.2.1))
  · have h2 : (ps.find? fun p => decide ((p.1, p.2.1) = (q.1, q.2.1))).isSome = true := by
      obtain ⟨p, hp, e⟩ := List.mem_map.mp h
      exact List.find?_isSome.mpr ⟨p, hp, decide_eq_true e⟩
    rw [if_pos h, if_pos h2, List.map_map, List.map_map]
    refine List.map_congr_left fun p _ => ?_
    show (if nkW (pkeyW p.1 p.2.1) = nkW (pkeyW q.1 q.2.1) then (pkeyW p.1 p.2.1, intsT q.2.2) else kvP p) = kvP (if (p.1, p.2.1) = (q.1, q.2.1) then q else p)
    by_cases e : (p.1, p.2.1) = (q.1, q.2.1)
    · have e2 : p.1 = q.1 ∧ p.2.1 = q.2.1 := Prod.mk.injEq _ _ _ _ ▸ e
      rw [if_pos e, if_pos (nk_pkey.mpr e2), e2.1, e2.2]
    · rw [if_neg e, if_neg fun z => e (by obtain ⟨a, b⟩ := nk_pkey.mp z; rw [a, b])]
  · have h2 : ¬ (ps.find? fun p => decide ((p.1, p.2.1) = (q.1, q.2.1))).isSome = true := fun z => by
      obtain ⟨p, hp, e⟩ := List.find?_isSome.mp z
      exact h (List.mem_map.mpr ⟨p, hp, of_decide_eq_true e⟩)
    rw [if_neg h, if_neg h2, List.map_append]
    rfl
theorem putP_ok {ps : List Pick} (ok : OkPicks ps) {q : Pick} (hq : PyData.strOk q.1 = true) : OkPicks (putP ps q) := by
  unfold putP
  split
  · refine ⟨?_, fun p hp => ?_⟩
    · rw [List.map_map]
      have e : ps.map ((fun p => (p.1, p.2.1)) ∘ fun p => if (p.1, p.2.1) = (q.1, q.2.1) then q else p) = ps.map fun p => (p.1, p.2.1) := by
        refine List.map_congr_left fun p _ => ?_
        show (fun p : Pick => (p.1, p.2.1)) (if (p.1, p.2.1) = (q.1, q.2.1) then q else p) = _
        split
        · rename_i h
          exact h.symm
        · rfl
      rw [e]
      exact ok.nd
    · obtain ⟨x, hx, rfl⟩ := List.mem_map.mp hp
      show PyData.strOk (if (x.1, x.2.1) = (q.1, q.2.1) then q else x).1 = true
      split
      · exact hq
      · exact ok.ok x hx
  · rename_i h
    refine ⟨?_, fun p hp => ?_⟩
    · rw [List.map_append]
      exact List.nodup_append.mpr ⟨ok.nd, by simp, fun a ha b hb e => by
        rw [List.map_cons, List.map_nil, List.mem_singleton] at hb
        rw [hb] at e
        exact h (e ▸ ha)⟩
    · rcases List.mem_append.mp hp with h | h
      · exact ok.ok p h
      · rw [List.mem_singleton.mp h]
        exact hq
theorem putP_len {ps : List Pick} {q : Pick} : (putP ps q).length ≤ ps.length + 1 := by
  unfold putP
  split
  · rw [List.length_map]
    omega
  · rw [List.length_append]
    exact Nat.le_refl _
theorem pick_find {ps : List Pick} (ok : OkPicks ps) {p : Pick} (h : p ∈ ps) : valN (ps.map kvP) (pkeyW p.1 p.2.1) = some (intsT p.2.2) := by
  have nd := ok.nd
  rw [valP]
  clear ok
  induction ps with
  | nil => cases h
  | cons x ps ih =>
    rw [List.map_cons, List.nodup_cons] at nd
    rw [List.find?_cons]
    by_cases e : (x.1, x.2.1) = (p.1, p.2.1)
    · rw [decide_eq_true e]
      rcases List.mem_cons.mp h with e2 | h2
      · rw [e2]
        rfl
      · exact absurd (List.mem_map.mpr ⟨p, h2, e.symm⟩) nd.1
    · rw [decide_eq_false e]
      rcases List.mem_cons.mp h with e2 | h2
      · exact absurd (by rw [e2]) e
      · exact ih h2 nd.2
abbrev pickKd : Kd := .cons .s (.cons (.seq .i) (.cons (.seq .i) .nil))
theorem pick_isK (p : Pick) : IsK pickKd (pickW p) := ⟨_, _, rfl, ⟨_, rfl⟩, _, _, rfl, isK_ints _, _, _, rfl, isK_ints _, rfl⟩
theorem pick_std {p : Pick} (h : PyData.strOk p.1 = true) : (pickW p).std = true := by
  show (PyData.strOk p.1 && ((intsT p.2.1).std && ((intsT p.2.2).std && true))) = true
  rw [h, std_ints, std_ints]
  rfl
theorem pureL_picks (ps : List Pick) : W.pureL (ps.map pickW) = true := pureL_of fun w hw => by
  obtain ⟨p, _, rfl⟩ := List.mem_map.mp hw
  show (true && (W.pureL (p.2.1.map W.int) && (W.pureL (p.2.2.map W.int) && true))) = true
  rw [pureL_ints, pureL_ints]
  rfl
theorem kind_inj {a b : Bool} : kindS a = kindS b ↔ a = b := by
  refine ⟨fun h => ?_, fun h => by rw [h]⟩
  cases a <;> cases b <;> first | rfl | (exact absurd h (by decide +kernel))
theorem kind_one {a : Bool} : kindS a = Str.ofString "one" ↔ a = true := kind_inj (b := true)
theorem kind_all {a : Bool} : kindS a = Str.ofString "all" ↔ a = false := kind_inj (b := false)
/-! ### _law_picks -/
def F_picks (P : Program) (w : World) : DSpec := fun ws S Q => ∃ st R jv vals ts x1 ds x3 x4 rows, ws = [.ref 2, houseW ts x1 ds x3 x4, storeW rows, .ref (jv + 1 + 1 + 1)] ∧ S = SB st R ∧ Good st ∧ R[jv]? = some (iLst vals) ∧ 0 < vals.length ∧ vals.length ≤ 20 ∧ OkHouse ts ds ∧ OkStore ts rows ∧
  ∀ st' ps, Good st' → OkPicks ps → ps.length ≤ 100 → Q (.tup (ps.map pickW)) (SB st' R)
variable {P : Program} {w : World}
theorem vc_picks : ∀ ws S Q, Closed S → F_picks P w ws S Q → d_law_picks P w F_calls F_meets F_width F_draw (endsW S.length Q) (startW N_law_picks.length ws) S := by
  rintro ws S Q cl ⟨st, R, jv, vals, ts, x1, ds, x3, x4, rows, rfl, rfl, g, hv, v0, v20, okH, okS, q⟩
  show d_law_picks P w F_calls F_meets F_width F_draw _ [some (.ref 2), some (houseW ts x1 ds x3 x4), some (storeW rows), some (.ref (jv + 1 + 1 + 1)), none, none, none, none, none, none, none, none] _
  unfold d_law_picks
  have okT := okH.tabs
  refine seqI (fun e s => ∃ (st2 : Src) (ps : List Pick) (G : Sto) (x5 x6 x7 x8 x9 x10 x11 : Option DL.W), Good st2 ∧ OkPicks ps ∧ ps.length ≤ 0 ∧ e = [some (.ref 2), some (houseW ts x1 ds x3 x4), some (storeW rows), some (.ref (jv + 1 + 1 + 1)), some (.ref (R.length + 0 + 1 + 1 + 1)), x5, x6, x7, x8, x9, x10, x11] ∧ s = SB st2 (R ++ .nd P w none (ps.map kvP) :: G)) (fun N hN => ?_) ?_
  · walk_at "dl"
    exact hN _ _ ⟨st, [], [], _, _, _, _, _, _, _, g, ⟨by simp, by simp⟩, Nat.le_refl _, rfl, rfl⟩
  intro e s h0
  refine seqI (fun e s => ∃ (st2 : Src) (ps : List Pick) (G : Sto) (x5 x6 x7 x8 x9 x10 x11 : Option DL.W), Good st2 ∧ OkPicks ps ∧ ps.length ≤ 6 * ds.length ∧ e = [some (.ref 2), some (houseW ts x1 ds x3 x4), some (storeW rows), some (.ref (jv + 1 + 1 + 1)), some (.ref (R.length + 0 + 1 + 1 + 1)), x5, x6, x7, x8, x9, x10, x11] ∧ s = SB st2 (R ++ .nd P w none (ps.map kvP) :: G)) (fun N hN => ?_) ?_
  · obtain ⟨st2, ps, G, x5, x6, x7, x8, x9, x10, x11, g2, okP, pl, rfl, rfl⟩ := h0
    walk_at "dl"
    refine forM (fun pre e s => ∃ (st2 : Src) (ps : List Pick) (G : Sto) (x5 x6 x7 x8 x9 x10 x11 : Option DL.W), Good st2 ∧ OkPicks ps ∧ ps.length ≤ 6 * pre.length ∧ e = [some (.ref 2), some (houseW ts x1 ds x3 x4), some (storeW rows), some (.ref (jv + 1 + 1 + 1)), some (.ref (R.length + 0 + 1 + 1 + 1)), x5, x6, x7, x8, x9, x10, x11] ∧ s = SB st2 (R ++ .nd P w none (ps.map kvP) :: G)) ⟨st2, ps, G, _, _, _, _, _, _, _, g2, okP, by omega, rfl, rfl⟩ ?_ ?_
    · rintro pre d post e s hpre ⟨st2, ps, G, x5, x6, x7, x8, x9, x10, x11, g2, okP, pl, rfl, rfl⟩ N2 hN2
      have hdm : d ∈ ds := by rw [hpre]; simp
      have hpl : pre.length < ds.length := by rw [hpre]; simp
      have d8 := okH.d8
      have okD := okH.ok d hdm
      refine ⟨trivial, ?_⟩
      walk_at "dl"
      split
      · refine ⟨st2, R ++ .nd P w none (ps.map kvP) :: G, houseW ts x1 ds x3 x4, ts, rows, jv, vals, d, rfl, rfl, g2, get_old hv, v0, v20, okT, okS, okD, fun st3 c1 g3 l1 k1 => ?_⟩
        refine ⟨st3, _, houseW ts x1 ds x3 x4, ts, rows, jv, vals, d, rfl, rfl, g3, get_old (get_old hv), v0, v20, okT, okS, okD, fun st4 c2 g4 l2 k2 => ?_⟩
        obtain ⟨us, hus⟩ : ∃ us, c1 ++ c2 = us := ⟨_, rfl⟩
        have ul : us.length = 6 := by rw [← hus, List.length_append, l1, l2]
        have uk : ∀ c ∈ us, c.length = d.cols.length := by
          intro c hc
          rw [← hus] at hc
          exact (List.mem_append.mp hc).elim (k1 c) (k2 c)
        have e1 : (R ++ .nd P w none (ps.map kvP) :: G ++ [O.lst (c1.map intsT)] ++ [O.lst (c2.map intsT)]) = R ++ (.nd P w none (ps.map kvP) :: G ++ [O.lst (c1.map intsT)] ++ [O.lst (c2.map intsT)]) := by simp
        have h1 : (SB st4 (R ++ .nd P w none (ps.map kvP) :: G ++ [O.lst (c1.map intsT)] ++ [O.lst (c2.map intsT)]))[(R ++ O.nd P w none (ps.map kvP) :: G).length + 1 + 1 + 1]? = some (.lst (c1.map intsT)) := get_old (S := SB st4 (R ++ .nd P w none (ps.map kvP) :: G ++ [O.lst (c1.map intsT)])) newA
        have h2 : (SB st4 (R ++ .nd P w none (ps.map kvP) :: G ++ [O.lst (c1.map intsT)] ++ [O.lst (c2.map intsT)]))[(R ++ O.nd P w none (ps.map kvP) :: G ++ [O.lst (c1.map intsT)]).length + 1 + 1 + 1]? = some (.lst (c2.map intsT)) := newA
        rw [e_addL h1 h2]
        refine ⟨le_sz (by rw [List.length_map, List.length_map]; omega), ?_⟩
        rw [← List.map_append, hus, e1, sb_len, sb_app]
        rw [e_seqL (sbA newA)]
        obtain ⟨G2, kq, hG2, hkq, hGq⟩ : ∃ (G2 : Sto) (kq : Nat), (O.nd P w none (ps.map kvP) :: G ++ [O.lst (c1.map intsT)] ++ [O.lst (c2.map intsT)] ++ [O.lst (us.map intsT)]) = O.nd P w none (ps.map kvP) :: G2 ∧ (O.nd P w none (ps.map kvP) :: G ++ [O.lst (c1.map intsT)] ++ [O.lst (c2.map intsT)]).length = kq + 1 ∧ G2[kq]? = some (.lst (us.map intsT)) :=
          ⟨G ++ [O.lst (c1.map intsT)] ++ [O.lst (c2.map intsT)] ++ [O.lst (us.map intsT)], (G ++ [O.lst (c1.map intsT)] ++ [O.lst (c2.map intsT)]).length, rfl, rfl, newA⟩
        rw [hG2, hkq]
        obtain ⟨t, htm, het, hct⟩ := okD.tab
        have tw := okT.w t htm
        have hml : ∀ call, (meets rows d call).length ≤ 300 := fun call => Nat.le_trans (List.length_filter_le _ _) (Nat.le_trans rowsOf_len okS.len)
        refine forM (fun pq e s => ∃ (st2 : Src) (ps : List Pick) (G : Sto) (x6 x7 x8 x9 x10 x11 : Option DL.W), Good st2 ∧ OkPicks ps ∧ ps.length ≤ 6 * pre.length + pq.length ∧ G[kq]? = some (.lst (us.map intsT)) ∧ e = [some (.ref 2), some (houseW ts x1 ds x3 x4), some (storeW rows), some (.ref (jv + 1 + 1 + 1)), some (.ref (R.length + 0 + 1 + 1 + 1)), some (doorW d), x6, x7, x8, x9, x10, x11] ∧ s = SB st2 (R ++ .nd P w none (ps.map kvP) :: G))
          ⟨st4, ps, G2, _, _, _, _, _, _, g4, okP, pl, hGq, rfl, rfl⟩ ?_ ?_
        · clear hG2 hkq hGq G2 h1 h2 e1 g4 g3 g2 st4 st3 st2 okP pl ps G x5 x6 x7 x8 x9 x10 x11
          rintro pq call post2 e s hpq ⟨st2, ps, G, x6, x7, x8, x9, x10, x11, g2, okP, pl, hGq, rfl, rfl⟩ N3 hN3
          have hcm : call ∈ us := by rw [hpq]; simp
          have hcl := uk call hcm
          have hpql : pq.length < 6 := by rw [← ul, hpq]; simp
          refine ⟨sbA (k := kq + 1) hGq, ?_⟩
          rw [e_nm]
          refine seqI (fun e s => ∃ (G : Sto) (k7 : Nat), G[kq]? = some (.lst (us.map intsT)) ∧ G[k7]? = some (.lst ((meets rows d call).map intsT)) ∧ e = [some (.ref 2), some (houseW ts x1 ds x3 x4), some (storeW rows), some (.ref (jv + 1 + 1 + 1)), some (.ref (R.length + 0 + 1 + 1 + 1)), some (doorW d), some (intsT call), some (.ref (R.length + (k7 + 1) + 1 + 1 + 1)), x8, x9, x10, x11] ∧ s = SB st2 (R ++ .nd P w none (ps.map kvP) :: G)) (fun N4 hN4 => ?_) ?_
          · walk_at "dl"
            refine ⟨_, ts, rows, d, call, rfl, okT, okS, okD, ?_⟩
            rw [sb_len, sb_app]
            exact hN4 _ _ ⟨G ++ [.lst ((meets rows d call).map intsT)], G.length, get_old hGq, newA, rfl, rfl⟩
          clear hGq G
          rintro e s ⟨G, k7, hGq, hG7, rfl, rfl⟩
          refine seqI (fun e s => ∃ (st2 : Src) (G : Sto) (r : List Int), Good st2 ∧ r.length = t.2 ∧ G[kq]? = some (.lst (us.map intsT)) ∧ G[k7]? = some (.lst ((meets rows d call).map intsT)) ∧ e = [some (.ref 2), some (houseW ts x1 ds x3 x4), some (storeW rows), some (.ref (jv + 1 + 1 + 1)), some (.ref (R.length + 0 + 1 + 1 + 1)), some (doorW d), some (intsT call), some (.ref (R.length + (k7 + 1) + 1 + 1 + 1)), some (.ref (R.length + (G.length + 1) + 1 + 1 + 1)), x9, x10, x11] ∧ s = SB st2 (R ++ .nd P w none (ps.map kvP) :: (G ++ [iLst r]))) (fun N4 hN4 => ?_) ?_
          · walk_at "dl"
            refine ⟨ts, x1, _, x3, x4, _, t, by rw [het], okT.nd, htm, ?_⟩
            refine ⟨_, rfl, by omega, by omega, ?_⟩
            rw [Int.toNat_natCast, rng_map]
            refine compDrN (R := R ++ .nd P w none (ps.map kvP) :: G) (P := fun _ w => ∃ v : Int, w = .int v) (fun _ => trivial) (by rw [List.length_range]; omega) g2 (fun k hk st4 g4 K hK => ?_) fun st4 ws g4 hl hP => ?_
            · exact vals_draw rfl rfl g4 hv v0 v20 fun v st' g' => hK _ _ g' ⟨v, rfl⟩
            · obtain ⟨vs, rfl, hvl⟩ := ints_of_at hl hP
              rw [List.length_range] at hvl
              rw [sb_len, sb_app]
              exact hN4 _ _ ⟨st4, G, vs, g4, hvl, hGq, hG7, rfl, rfl⟩
          clear hGq hG7 G g2 st2
          rintro e s ⟨st2, G, r, g2, hrl, hGq, hG7, rfl, rfl⟩
          have hL : ∀ (st : Src) (r : List Int), (SB st (R ++ .nd P w none (ps.map kvP) :: (G ++ [iLst r])))[R.length + (G.length + 1) + 1 + 1 + 1]? = some (iLst r) := fun st r => sbA (k := G.length + 1) (newA (A := G))
          have h7 : ∀ (st : Src) (r : List Int), (SB st (R ++ .nd P w none (ps.map kvP) :: (G ++ [iLst r])))[R.length + (k7 + 1) + 1 + 1 + 1]? = some (.lst ((meets rows d call).map intsT)) := fun st r => sbA (k := k7 + 1) (get_old hG7)
          refine seqI (fun e s => ∃ (r : List Int) (x9 : Option DL.W), r.length = t.2 ∧ e = [some (.ref 2), some (houseW ts x1 ds x3 x4), some (storeW rows), some (.ref (jv + 1 + 1 + 1)), some (.ref (R.length + 0 + 1 + 1 + 1)), some (doorW d), some (intsT call), some (.ref (R.length + (k7 + 1) + 1 + 1 + 1)), some (.ref (R.length + (G.length + 1) + 1 + 1 + 1)), x9, x10, x11] ∧ s = SB st2 (R ++ .nd P w none (ps.map kvP) :: (G ++ [iLst r]))) (fun N4 hN4 => ?_) ?_
          · walk_at "dl"
            have c4 := okD.len
            refine ⟨by omega, by omega, ?_⟩
            refine forW_inv (fun i e s => ∃ (r : List Int) (x9 : Option DL.W), r.length = t.2 ∧ e = [some (.ref 2), some (houseW ts x1 ds x3 x4), some (storeW rows), some (.ref (jv + 1 + 1 + 1)), some (.ref (R.length + 0 + 1 + 1 + 1)), some (doorW d), some (intsT call), some (.ref (R.length + (k7 + 1) + 1 + 1 + 1)), some (.ref (R.length + (G.length + 1) + 1 + 1 + 1)), x9, x10, x11] ∧ s = SB st2 (R ++ .nd P w none (ps.map kvP) :: (G ++ [iLst r]))) ⟨r, _, hrl, rfl, rfl⟩ ?_ ?_
            · rintro i x e s hx ⟨r2, z9, hrl2, rfl, rfl⟩ N5 hN5
              obtain ⟨hi, rfl⟩ := rng_get hx
              have hi1 : i < call.length := by omega
              have hi2 : i < d.cols.length := by omega
              have ea : atI (call.map W.int) (i : Int) = some (.int call[i]) := atI_nat (by rw [List.getElem?_map, List.getElem?_eq_getElem hi1]; rfl)
              have eb : atI (colsW d.cols) (i : Int) = some (.int (d.cols[i] : Int)) := atI_nat (by rw [List.getElem?_map, List.getElem?_eq_getElem hi2]; rfl)
              have hcc := hct _ (List.getElem_mem hi2)
              have ec : ixN (r2.map W.int).length (d.cols[i] : Int) = some d.cols[i] := ixN_nat (by rw [List.length_map]; omega)
              refine ⟨trivial, ?_⟩
              walk_at "dl"
              rw [e_ixAT ea]
              walk_at "dl"
              rw [e_ixAT eb, e_setAL (hL _ _) ec, sb_set, List.set_cons_succ, set_app0, List.set_cons_zero, ← List.map_set]
              exact hN5 _ _ ⟨r2.set d.cols[i] call[i], _, by rw [List.length_set]; exact hrl2, rfl, rfl⟩
            · rintro e s ⟨r2, z9, hrl2, rfl, rfl⟩
              exact ⟨trivial, hN4 _ _ ⟨r2, z9, hrl2, rfl, rfl⟩⟩
          clear hrl r
          rintro e s ⟨r, z9, hrl, rfl, rfl⟩
          refine seqI (fun e s => ∃ (st2 : Src) (kd : Int), Good st2 ∧ e = [some (.ref 2), some (houseW ts x1 ds x3 x4), some (storeW rows), some (.ref (jv + 1 + 1 + 1)), some (.ref (R.length + 0 + 1 + 1 + 1)), some (doorW d), some (intsT call), some (.ref (R.length + (k7 + 1) + 1 + 1 + 1)), some (.ref (R.length + (G.length + 1) + 1 + 1 + 1)), z9, some (.int kd), x11] ∧ s = SB st2 (R ++ .nd P w none (ps.map kvP) :: (G ++ [iLst r]))) (fun N4 hN4 => ?_) ?_
          · walk_at "dl"
            exact draw_ok g2 (by decide) (by decide) fun st3 r3 g3 _ _ => hN4 _ _ ⟨st3, r3, g3, rfl, rfl⟩
          clear g2 st2
          rintro e s ⟨st2, kd, g2, rfl, rfl⟩
          refine seqI (fun e s => ∃ (st2 : Src) (w8 : DL.W) (r8 : List Int), Good st2 ∧ (w8 = intsT r8 ∨ (w8 = .ref (R.length + (G.length + 1) + 1 + 1 + 1) ∧ r8 = r)) ∧ e = [some (.ref 2), some (houseW ts x1 ds x3 x4), some (storeW rows), some (.ref (jv + 1 + 1 + 1)), some (.ref (R.length + 0 + 1 + 1 + 1)), some (doorW d), some (intsT call), some (.ref (R.length + (k7 + 1) + 1 + 1 + 1)), some w8, z9, some (.int kd), x11] ∧ s = SB st2 (R ++ .nd P w none (ps.map kvP) :: (G ++ [iLst r]))) (fun N4 hN4 => ?_) ?_
          · walk_at "dl"
            rw [e_lenAL (h7 _ _), List.length_map]
            walk_at "dl"
            split
            · split
              · rename_i hm0
                split
                · obtain ⟨ml, mlast, hml2⟩ : ∃ (ml : List (List Int)) (mlast : List Int), meets rows d call = ml ++ [mlast] := by
                    cases hmm : (meets rows d call).reverse with
                    | nil =>
                      rw [List.reverse_eq_nil_iff] at hmm
                      rw [hmm] at hm0
                      exact absurd hm0 (by decide)
                    | cons a l =>
                      exact ⟨l.reverse, a, by rw [← List.reverse_reverse (meets rows d call), hmm, List.reverse_cons]⟩
                  have el : atI ((meets rows d call).map intsT) (-1) = some (intsT mlast) := by
                    rw [hml2, List.map_append]
                    exact atI_end
                  rw [e_ixAL (h7 _ _) el]
                  exact hN4 _ _ ⟨st2, _, mlast, g2, .inl rfl, rfl, rfl⟩
                · have := hml call
                  rw [e_lenAL (h7 _ _), List.length_map]
                  refine draw_ok (many := ((meets rows d call).length : Int)) g2 (by omega) (by omega) fun st3 r3 g3 r30 r31 => ?_
                  obtain ⟨row, _, _, hrow⟩ := at_map (f := intsT) r30 r31
                  rw [e_ixAL (h7 _ _) hrow]
                  exact hN4 _ _ ⟨st3, _, row, g3, .inl rfl, rfl, rfl⟩
              · exact hN4 _ _ ⟨st2, _, r, g2, .inr ⟨rfl, rfl⟩, rfl, rfl⟩
            · exact hN4 _ _ ⟨st2, _, r, g2, .inr ⟨rfl, rfl⟩, rfl, rfl⟩
          clear g2 st2
          rintro e s ⟨st2, w8, r8, g2, h8, rfl, rfl⟩
          have kq2 : (G ++ [iLst r])[kq]? = some (.lst (us.map intsT)) := get_old hGq
          have tup8 : ∀ (Q : WK), Q (intsT r8) (SB st2 (R ++ .nd P w none (ps.map kvP) :: (G ++ [iLst r]))) → vTuple [w8] (SB st2 (R ++ .nd P w none (ps.map kvP) :: (G ++ [iLst r]))) Q := by
            intro Q hQ
            rcases h8 with rfl | ⟨rfl, rfl⟩
            · rw [e_tupleT]
              exact hQ
            · rw [e_tupleL (hL _ _)]
              exact hQ
          walk_at "dl"
          split
          · refine tup8 _ ?_
            walk_at "dl"
            refine ndset_ok (kvs := ps.map kvP) (sbA (k := 0) rfl) (hk_pkey d.name call) (by rw [List.length_map]; omega) ?_
            rw [sb_set (k := 0), List.set_cons_zero, putN_P (q := (d.name, call, r8))]
            refine hN3 _ _ ⟨st2, putP ps (d.name, call, r8), G ++ [iLst r], _, _, _, _, _, _, g2, putP_ok okP okD.name, ?_, kq2, rfl, rfl⟩
            have := putP_len (ps := ps) (q := (d.name, call, r8))
            rw [List.length_append]
            simp
            omega
          · exact hN3 _ _ ⟨st2, ps, G ++ [iLst r], _, _, _, _, _, _, g2, okP, by rw [List.length_append]; simp; omega, kq2, rfl, rfl⟩
        · rintro e s ⟨st5, ps5, G5, y6, y7, y8, y9, y10, y11, g5, okP5, pl5, hG5, rfl, rfl⟩
          refine ⟨sbA (k := kq + 1) hG5, hN2 _ _ ⟨st5, ps5, G5, _, _, _, _, _, _, _, g5, okP5, ?_, rfl, rfl⟩⟩
          rw [ul] at pl5
          rw [List.length_append]
          simp
          omega
      · exact hN2 _ _ ⟨st2, ps, G, _, _, _, _, _, _, _, g2, okP, by rw [List.length_append]; simp; omega, rfl, rfl⟩
    · rintro e s ⟨st2, ps, G, x5, x6, x7, x8, x9, x10, x11, g2, okP, pl, rfl, rfl⟩
      exact ⟨trivial, hN _ _ ⟨st2, ps, G, _, _, _, _, _, _, _, g2, okP, pl, rfl, rfl⟩⟩
  clear h0
  rintro e s ⟨st2, ps, G, x5, x6, x7, x8, x9, x10, x11, g2, okP, pl, rfl, rfl⟩
  have d8 := okH.d8
  walk_at "dl"
  refine ⟨_, _, rfl, fun o => ?_⟩
  rw [List.map_map]
  have hD : (SB st2 (R ++ .nd P w (some o) (ps.map kvP) :: G))[R.length + 0 + 1 + 1 + 1]? = some (.nd P w (some o) (ps.map kvP)) := sbA (k := 0) rfl
  refine compM (S := SB st2 (R ++ .nd P w (some o) (ps.map kvP) :: G)) (xs := ps) (h := pickW) trivial (by omega) (fun p hp K hK => ?_) ?_
  · have ek : ((fun x : DL.W × DL.W => x.1) ∘ kvP) p = pkeyW p.1 p.2.1 := rfl
    rw [ek]
    walk_at "dl"
    refine ndix_ok hD (hk_pkey _ _) (pick_find okP hp) ?_
    walk_at "dl"
    exact hK
  · rw [sb_len, sb_app]
    refine .inl (sorted_std (k := pickKd) (sbA newA) (fun w hw => by obtain ⟨p, hp, rfl⟩ := List.mem_map.mp hw; exact pick_std (okP.ok p hp)) (fun w hw => by obtain ⟨p, hp, rfl⟩ := List.mem_map.mp hw; exact pick_isK p) (.inl fun w hw => by obtain ⟨p, hp, rfl⟩ := List.mem_map.mp hw; exact ⟨_, _, rfl⟩) ?_)
    obtain ⟨es, he, hes⟩ := perm_map_inv (List.mergeSort_perm (ps.map pickW) leW) ps rfl
    rw [he, sb_len, sb_app, e_tupleL (sbA newA)]
    exact endST _ cl (pureL_picks es) (q st2 es g2 ⟨(hes.map _).nodup_iff.mpr okP.nd, fun p hp => okP.ok p (hes.mem_iff.mp hp)⟩ (by rw [hes.length_eq]; omega))
/-! ### _law_due -/
def due (rows : List Row) (ps : List Pick) (d : Door) (call : List Int) : List (List Int) :=
  if d.one = false ∨ meets rows d call = [] then meets rows d call
  else match ps.find? (fun p => decide (p.1 = d.name ∧ p.2.1 = call ∧ p.2.2 ∈ meets rows d call)) with
    | some p => [p.2.2]
    | none => (meets rows d call).take 1
def F_due : DSpec := fun ws S Q => ∃ w0 ts rows ps d call, ws = [w0, storeW rows, .tup (ps.map pickW), doorW d, intsT call] ∧ OkTabs ts ∧ OkStore ts rows ∧ OkDoor ts d ∧ OkPicks ps ∧ Q (.ref S.length) (S ++ [.lst ((due rows ps d call).map intsT)])
theorem vc_due : ∀ ws S Q, Closed S → F_due ws S Q → d_law_due F_meets (endsW S.length Q) (startW N_law_due.length ws) S := by
  rintro ws S Q cl ⟨w0, ts, rows, ps, d, call, rfl, okT, okS, okD, okP, q⟩
  show d_law_due F_meets _ [some w0, some (storeW rows), some (.tup (ps.map pickW)), some (doorW d), some (intsT call), none, none] _
  unfold d_law_due
  refine seqI (fun e s => e = [some w0, some (storeW rows), some (.tup (ps.map pickW)), some (doorW d), some (intsT call), some (.ref S.length), none] ∧ s = S ++ [.lst ((meets rows d call).map intsT)]) (fun N hN => ?_) ?_
  · walk_at "dl"
    exact ⟨w0, ts, rows, d, call, rfl, okT, okS, okD, hN _ _ ⟨rfl, rfl⟩⟩
  rintro e s ⟨rfl, rfl⟩
  have hM : ∀ G, (S ++ .lst ((meets rows d call).map intsT) :: G)[S.length]? = some (.lst ((meets rows d call).map intsT)) := fun G => get_app0
  refine seqI (fun e s => d.one = true ∧ meets rows d call ≠ [] ∧ e = [some w0, some (storeW rows), some (.tup (ps.map pickW)), some (doorW d), some (intsT call), some (.ref S.length), none] ∧ s = S ++ [.lst ((meets rows d call).map intsT)]) (fun N hN => ?_) ?_
  · have fin : (d.one = false ∨ meets rows d call = []) → Ends0 S.length Q (.ref S.length) (S ++ [.lst ((meets rows d call).map intsT)]) := by
      intro h
      unfold due at q
      rw [if_pos h] at q
      exact endL (T := [.lst ((meets rows d call).map intsT)]) (k := 0) cl rfl (pureL_intsT _) q
    walk_at "dl"
    split
    · rename_i h
      exact fin (.inl (kind_all.mp h))
    · rename_i h
      split
      · rename_i h2
        exact fin (.inr (List.eq_nil_of_length_eq_zero (by omega)))
      · rename_i h2
        refine hN _ _ ⟨?_, fun e => h2 (by rw [e]; rfl), rfl, rfl⟩
        cases hb : d.one with
        | true => rfl
        | false => exact absurd (kind_all.mpr hb) h
  rintro e s ⟨h1, hne, rfl, rfl⟩
  have hdue : due rows ps d call = match ps.find? (fun p => decide (p.1 = d.name ∧ p.2.1 = call ∧ p.2.2 ∈ meets rows d call)) with
    | some p => [p.2.2]
    | none => (meets rows d call).take 1 := by
    unfold due
    rw [if_neg]
    rintro (h | h)
    · rw [h1] at h
      cases h
    · exact hne h
  rw [hdue] at q
  refine seqI (fun e s => (∀ p ∈ ps, ¬ (p.1 = d.name ∧ p.2.1 = call ∧ p.2.2 ∈ meets rows d call)) ∧ ∃ x6, e = [some w0, some (storeW rows), some (.tup (ps.map pickW)), some (doorW d), some (intsT call), some (.ref S.length), x6] ∧ s = S ++ [.lst ((meets rows d call).map intsT)]) (fun N hN => ?_) ?_
  · walk_at "dl"
    refine forM (fun pre e s => (∀ p ∈ pre, ¬ (p.1 = d.name ∧ p.2.1 = call ∧ p.2.2 ∈ meets rows d call)) ∧ ∃ x6, e = [some w0, some (storeW rows), some (.tup (ps.map pickW)), some (doorW d), some (intsT call), some (.ref S.length), x6] ∧ s = S ++ [.lst ((meets rows d call).map intsT)]) ⟨by simp, _, rfl, rfl⟩ ?_ ?_
    · rintro pre p post e s hpre ⟨hno, x6, rfl, rfl⟩ N2 hN2
      refine ⟨trivial, ?_⟩
      have no : ¬ (p.1 = d.name ∧ p.2.1 = call ∧ p.2.2 ∈ meets rows d call) → N2 [some w0, some (storeW rows), some (.tup (ps.map pickW)), some (doorW d), some (intsT call), some (.ref S.length), some (pickW p)] (S ++ [.lst ((meets rows d call).map intsT)]) := by
        intro h
        refine hN2 _ _ ⟨fun x hx => ?_, _, rfl, rfl⟩
        rcases List.mem_append.mp hx with h' | h'
        · exact hno x h'
        · rw [List.mem_singleton.mp h']
          exact h
      walk_at "dl"
      split
      · rename_i ha
        refine eq_ints ⟨_, rfl, ?_⟩
        rw [Bool.false_xor]
        by_cases hb : p.2.1 = call
        · rw [decide_eq_true hb, if_pos rfl]
          refine inP_std (k := .seq .i) (k' := .seq .i) (hM []) (std_ints _) (isK_ints _) (ints_all_std _) (ints_all_K _) (p.2.2 ∈ meets rows d call) ?_ ?_
          · rw [List.mem_map]
            exact ⟨fun ⟨r, hr, e⟩ => intsT_inj.mp e ▸ hr, fun h => ⟨_, h, rfl⟩⟩
          · walk_at "dl"
            split
            · rename_i hc
              have hf : ps.find? (fun p => decide (p.1 = d.name ∧ p.2.1 = call ∧ p.2.2 ∈ meets rows d call)) = some p := by
                rw [hpre, List.find?_append, List.find?_eq_none.mpr (fun x hx => by rw [decide_eq_true_eq]; exact hno x hx), Option.none_or, List.find?_cons, decide_eq_true (show p.1 = d.name ∧ p.2.1 = call ∧ p.2.2 ∈ meets rows d call from ⟨ha, hb, hc⟩)]
              rw [hf] at q
              exact endL (T := [_, .lst [intsT p.2.2]]) (k := 1) cl rfl (pureL_intsT [p.2.2]) q
            · rename_i hc
              exact no fun h => hc h.2.2
        · rw [decide_eq_false hb, if_neg Bool.false_ne_true]
          walk_at "dl"
          exact no fun h => hb h.2.1
      · rename_i ha
        exact no fun h => ha h.1
    · rintro e s ⟨hno, x6, rfl, rfl⟩
      exact ⟨trivial, hN _ _ ⟨hno, x6, rfl, rfl⟩⟩
  rintro e s ⟨hno, x6, rfl, rfl⟩
  have hf : ps.find? (fun p => decide (p.1 = d.name ∧ p.2.1 = call ∧ p.2.2 ∈ meets rows d call)) = none := List.find?_eq_none.mpr (fun x hx => by rw [decide_eq_true_eq]; exact hno x hx)
  rw [hf] at q
  walk_at "dl"
  rw [show (1 : Int) = ((1 : Nat) : Int) from rfl, cut_to, ← List.map_take]
  exact endL (T := [_, .lst (((meets rows d call).take 1).map intsT)]) (k := 1) cl rfl (pureL_intsT _) q

end K25

namespace K25
open PySem PySem.Spec PyProof.Rows L2 TL DL
local macro_rules | `(tactic| walk_at "dl") => `(tactic| try simp (config := { decide := false }) only [e_seq, e_asg, e_nm, e_op, e_un, e_cb, e_c, e_var, e_ifs, e_tru, e_B, e_drop, e_bm, e_bm0, e_ret, e_retN, e_next, e_break, e_cont, e_nil, e_cons, e_tup, e_lst, e_sl, e_onone, e_osome, e_gsub, e_call, e_callk, e_and, e_or, e_not, e_andv, e_orv, e_notv, e_notU, e_isI, e_isS, e_isT, e_isR, e_isN, e_if, e_par, e_for, e_comp, e_iseq, e_rng1, e_rng3, e_zip, e_dictC, e_sc2, e_iseqF, e_yes, e_dictN, src_cells, src_great, src_rest, src_count, src_putR, src_putC, src_len, sz4l, e_nget1, e_nget2, e_lockN, e_dictCN, e_disp, e_ap0, e_ap1, e_gtp, e_gc, e_gn0,
  e_addI, e_addS, e_addT, e_addL, e_i20, e_i2, e_neg, e_cmpI, e_cmpS, e_eqI, e_eqS, e_eqB, e_ixT, e_ixLit, e_ixL, e_ixS, e_set, e_ixAT, e_ixALit, e_ixAL, e_ixAS, e_ixAD, e_setAL, e_setAD, e_dict0, e_inAL, e_inAT, e_inAD, e_inAS, e_listAT, e_listALit, e_listAL, e_listAD, e_max2, e_extend, e_isalpha, e_enum, keyW, sz0, sz1, sz2, sz3, sz4, sz5, sz6, O.dk.injEq, e_slT, e_slLit, e_slS, e_slL, e_lenAS, e_lenAT, e_lenALit, e_lenAL, e_lenAD, e_lenS, e_lenT, e_lenLit, e_lenL, e_i1, e_intI, e_intB, e_strI, e_strS, e_listT, e_listLit, e_listL, e_tupleT, e_tupleL, e_append, e_pop0, e_tyL, e_tyS, e_truL, e_truT, e_truB, e_truI, e_truS, e_truN, e_seqT, e_seqLit, e_seqL, e_in, e_inT, e_isi, kit_ll, kit_ss, kit_tt, kit_ii, kit_ib, tyW_L, tyW_S, tyW_T, tyW_I, tyW_B, cut_to1, cut_to2, cut_from1, wipeW_nil, wipeW_cons, Nat.reduceAdd, eq_self, List.map_cons, List.map_nil,
  atI_0, atI_1, atI_2, atI_3, atI_4, atI_5, atI_end, ixN_0, ixN_1, ixN_11, ixN_last, List.map_append, List.map_cons, List.map_nil, get_app, get_app0, set_app, set_app0, List.cons_append, List.nil_append, List.append_assoc, List.length_append, List.length_cons, List.length_nil, Nat.zero_add, List.length_map, List.length_set,
  List.getElem?_cons_zero, List.getElem?_cons_succ, List.set_cons_zero, List.set_cons_succ, Option.some.injEq, exists_eq_left', exists_eq_left, exists_and_left, W.int.injEq, W.bl.injEq, W.str.injEq, W.tup.injEq, W.ref.injEq, O.lst.injEq, List.cons.injEq, reduceCtorEq, false_and, exists_false, or_false, false_or, true_and, and_true, decide_eq_true_eq, Bool.false_xor, Bool.true_xor, Bool.not_eq_true', decide_eq_false_iff_not, List.isEmpty_cons, List.isEmpty_nil, Bool.not_true, Bool.not_false, if_true, if_false, not_true_eq_false, not_false_eq_true, ne_eq, Bool.false_eq_true, reduceIte])


/-! ### _law_alike, _law_same -/
theorem kit_ts : kitB "tuple" "str" = some false := by decide +kernel
theorem kit_ti : kitB "tuple" "int" = some false := by decide +kernel
theorem kit_ls : kitB "list" "str" = some false := by decide +kernel
theorem kit_li : kitB "list" "int" = some false := by decide +kernel
def Sm (S : Sto) (a b : DL.W) : Prop := (∃ x, a = .str x ∧ b = .str x) ∨ (∃ n, a = .int n ∧ b = .int n) ∨ ∃ us, a = .tup us ∧ W.stdL us = true ∧ (b = .tup us ∨ ∃ i, b = .ref i ∧ S[i]? = some (.lst us))
theorem Sm.of_std {S : Sto} : ∀ {a : DL.W}, a.std = true → Sm S a a
  | .str x, _ => .inl ⟨x, rfl, rfl⟩
  | .int n, _ => .inr (.inl ⟨n, rfl, rfl⟩)
  | .tup us, h => .inr (.inr ⟨us, rfl, h, .inl rfl⟩)
  | .non, h => by cases h
  | .bl _, h => by cases h
  | .lit _, h => by cases h
  | .ref _, h => by cases h
  | .raw _, h => by cases h
theorem Sm.app {S : Sto} {a b : DL.W} (G : Sto) (h : Sm S a b) : Sm (S ++ G) a b := by
  rcases h with h | h | ⟨us, h1, h2, h3 | ⟨i, h3, h4⟩⟩
  · exact .inl h
  · exact .inr (.inl h)
  · exact .inr (.inr ⟨us, h1, h2, .inl h3⟩)
  · exact .inr (.inr ⟨us, h1, h2, .inr ⟨i, h3, get_old h4⟩⟩)
def F_alike : DSpec := fun ws S Q => ∃ a b, ws = [a, b] ∧ Sm S a b ∧ Q (.bl true) S
theorem vc_alike : ∀ ws S Q, Closed S → F_alike ws S Q → d_law_alike (endsW S.length Q) (startW N_law_alike.length ws) S := by
  rintro ws S Q cl ⟨a, b, rfl, h, q⟩
  show d_law_alike _ [some a, some b] _
  unfold d_law_alike
  have fin : Ends0 S.length Q (.bl true) S := Ends0.keep (Nat.le_refl _) cl rfl q
  rcases h with ⟨x, rfl, rfl⟩ | ⟨n, rfl, rfl⟩ | ⟨us, rfl, hs, rfl | ⟨i, rfl, hi⟩⟩
  · walk_at "dl"
    rw [decide_true]
    exact fin
  · walk_at "dl"
    rw [e_isi (t := "int") (b := false) rfl kit_is]
    walk_at "dl"
    rw [decide_true]
    exact fin
  · walk_at "dl"
    rw [e_isi (t := "tuple") (b := false) rfl kit_ts]
    walk_at "dl"
    rw [e_isi (t := "tuple") (b := false) rfl kit_ti]
    walk_at "dl"
    rw [decide_true]
    exact fin
  · walk_at "dl"
    rw [e_isi (t := "list") (b := false) (tyW_L hi) kit_ls]
    walk_at "dl"
    rw [e_isi (t := "list") (b := false) (tyW_L hi) kit_li]
    walk_at "dl"
    rw [e_lenAL hi]
    walk_at "dl"
    rw [decide_true]
    exact fin
mutual
def nodes : DL.W → Nat
  | .tup us => nodesL us + 1
  | _ => 1
def nodesL : List DL.W → Nat
  | [] => 0
  | u :: us => nodes u + nodesL us
end
theorem nodesL_app : ∀ us vs : List DL.W, nodesL (us ++ vs) = nodesL us + nodesL vs
  | [], vs => by simp [nodesL]
  | u :: us, vs => by
    show nodes u + nodesL (us ++ vs) = nodes u + nodesL us + nodesL vs
    rw [nodesL_app us vs]
    omega
theorem nodes_pos : ∀ w : DL.W, 1 ≤ nodes w
  | .tup us => Nat.le_add_left 1 _
  | .str _ => Nat.le_refl 1
  | .int _ => Nat.le_refl 1
  | .non => Nat.le_refl 1
  | .bl _ => Nat.le_refl 1
  | .lit _ => Nat.le_refl 1
  | .ref _ => Nat.le_refl 1
  | .raw _ => Nat.le_refl 1
theorem nodesL_len : ∀ us : List DL.W, us.length ≤ nodesL us
  | [] => Nat.le_refl 0
  | u :: us => by
    have h1 := nodes_pos u
    have h2 := nodesL_len us
    show us.length + 1 ≤ nodes u + nodesL us
    omega
theorem nil_or_snoc {α : Type} (l : List α) : l = [] ∨ ∃ t p, l = t ++ [p] := by
  rcases List.eq_nil_or_concat l with h | ⟨t, p, h⟩
  · exact .inl h
  · exact .inr ⟨t, p, by rw [h, List.concat_eq_append]⟩
abbrev pairW2 (p : DL.W × DL.W) : DL.W := .tup [p.1, p.2]
def F_same : DSpec := fun ws S Q => ∃ us i, ws = [.tup us, .ref i] ∧ S[i]? = some (.lst us) ∧ W.stdL us = true ∧ nodesL us ≤ 39000 ∧ Q (.bl true) S
theorem vc_same : ∀ ws S Q, Closed S → F_same ws S Q → d_law_same F_alike (endsW S.length Q) (startW N_law_same.length ws) S := by
  rintro ws S Q cl ⟨us0, i0, rfl, hi0, hst, hnl, q⟩
  show d_law_same F_alike _ [some (.tup us0), some (.ref i0), none, none, none, none] _
  unfold d_law_same
  have fin : ∀ T, Ends0 S.length Q (.bl true) (S ++ T) := fun T => end_drop cl rfl q
  have hO : ∀ todo : List (DL.W × DL.W), (S ++ [.lst (todo.map pairW2)])[S.length]? = some (.lst (todo.map pairW2)) := fun todo => get_app0
  walk_at "dl"
  refine ⟨by decide, by decide, ?_⟩
  refine forW_inv (fun i e s => ∃ (todo : List (DL.W × DL.W)) (x3 x4 x5 : Option DL.W), (∀ p ∈ todo, Sm S p.1 p.2) ∧ nodesL (todo.map (·.1)) + i ≤ 39001 ∧ e = [some (.tup us0), some (.ref i0), some (.ref S.length), x3, x4, x5] ∧ s = S ++ [.lst (todo.map pairW2)])
    ⟨[(.tup us0, .ref i0)], _, _, _, ?_, ?_, rfl, rfl⟩ ?_ ?_
  · intro p hp
    rw [List.mem_singleton.mp hp]
    exact .inr (.inr ⟨us0, rfl, hst, .inr ⟨i0, rfl, hi0⟩⟩)
  · show nodesL us0 + 1 + 0 + 0 ≤ 39001
    omega
  · rintro i x e s hx ⟨todo, x3, x4, x5, hsm, hn, rfl, rfl⟩ N hN
    obtain ⟨hi, rfl⟩ := rng_get hx
    refine ⟨trivial, ?_⟩
    rcases nil_or_snoc todo with rfl | ⟨t2, p, rfl⟩
    · walk_at "dl"
      exact fin _
    · have hp : Sm S p.1 p.2 := hsm p (by simp)
      have htl : (t2 ++ [p]).length ≤ 39001 := by
        have := nodesL_len ((t2 ++ [p]).map (·.1))
        rw [List.length_map] at this
        omega
      rw [List.map_append, nodesL_app] at hn
      have hn2 : nodesL (t2.map (·.1)) + nodes p.1 + i ≤ 39001 := hn
      rw [e_nm, e_seq, e_ifs, e_B, e_op, e_cb, e_cons, e_var rfl, e_nil, e_lenAL (hO _), List.length_map, List.length_append]
      walk_at "dl"
      rw [if_neg (by omega), e_pop0 (show (S ++ [O.lst (t2.map pairW2 ++ [pairW2 p])])[S.length]? = some (.lst (t2.map pairW2 ++ [pairW2 p])) from get_app0), set_app0, List.set_cons_zero]
      walk_at "dl"
      refine ⟨p.1, p.2, rfl, hp.app _, ?_⟩
      walk_at "dl"
      have done : nodes p.1 = 1 → N [some (.tup us0), some (.ref i0), some (.ref S.length), some (.int (i : Int)), some (pairW2 p), x5] (S ++ [.lst (t2.map pairW2)]) := by
        intro h1
        exact hN _ _ ⟨t2, _, _, _, fun q hq => hsm q (List.mem_append_left _ hq), by omega, rfl, rfl⟩
      have go : ∀ (us : List DL.W) (b : DL.W), p = (.tup us, b) → W.stdL us = true → (∀ (x : O) (k : Nat) (hk : k < us.length) (Q : WK), Q us[k] (S ++ [x]) → vIxA b (.int (k : Int)) (S ++ [x]) Q) → ∀ (D : DEnds), D.nx = N →
          forW (gNm 5) (dDrop (dBM "list" vAppend (dVar 2) (aCons (dTup (aCons (dOp vIxA (dOp vIxA (dVar 4) (dC (.int 0))) (dVar 5)) (aCons (dOp vIxA (dOp vIxA (dVar 4) (dC (.int 1))) (dVar 5)) aNil))) aNil))) (fun _ => True) (rngW 0 (us.length : Int).toNat) D [some (.tup us0), some (.ref i0), some (.ref S.length), some (.int (i : Int)), some (pairW2 p), x5] (S ++ [.lst (t2.map pairW2)]) := by
        intro us b hpe hs hb D hD
        subst hpe
        have hn3 : nodesL (t2.map (·.1)) + (nodesL us + 1) + i ≤ 39001 := hn2
        have hul := nodesL_len us
        have htl2 : t2.length ≤ nodesL (t2.map (·.1)) := by
          have := nodesL_len (t2.map (·.1))
          rwa [List.length_map] at this
        rw [Int.toNat_natCast]
        refine forW_inv (fun k e s => ∃ x5, e = [some (.tup us0), some (.ref i0), some (.ref S.length), some (.int (i : Int)), some (pairW2 (.tup us, b)), x5] ∧ s = S ++ [.lst ((t2 ++ (us.take k).map fun u => (u, u)).map pairW2)]) ⟨_, rfl, by simp⟩ ?_ ?_
        · rintro k x e s hx ⟨y5, rfl, rfl⟩ N3 hN3
          obtain ⟨hk, rfl⟩ := rng_get hx
          refine ⟨trivial, ?_⟩
          have ea : atI us (k : Int) = some us[k] := atI_nat (List.getElem?_eq_getElem hk)
          rw [e_nm, e_drop, e_bm, e_var rfl]
          refine ⟨by rw [e_tyL (hO _)]; trivial, ?_⟩
          rw [e_cons, e_tup, e_cons, e_op, e_op, e_var rfl, e_c, e_ixAT atI_0, e_var rfl, e_ixAT ea, e_cons, e_op, e_op, e_var rfl, e_c, e_ixAT atI_1, e_var rfl]
          refine hb _ k hk _ ?_
          rw [e_nil]
          refine ⟨by show 2 ≤ sizeLine; decide, ?_⟩
          rw [e_nil, e_append (hO _), set_app0]
          refine ⟨lt_sz ?_, hN3 _ _ ⟨_, rfl, ?_⟩⟩
          · rw [List.length_map, List.length_append, List.length_map, List.length_take]
            omega
          · rw [List.set_cons_zero, take_snoc (List.getElem?_eq_getElem hk), List.map_append (l₁ := us.take k), ← List.append_assoc, List.map_append (l₁ := t2 ++ _)]
            rfl
        · rintro e s ⟨y5, rfl, rfl⟩
          rw [rng_len, List.take_length]
          refine ⟨trivial, ?_⟩
          rw [hD]
          refine hN _ _ ⟨t2 ++ us.map fun u => (u, u), _, _, _, fun q hq => ?_, ?_, rfl, rfl⟩
          · rcases List.mem_append.mp hq with h | h
            · exact hsm q (List.mem_append_left _ h)
            · obtain ⟨u, hu, rfl⟩ := List.mem_map.mp h
              exact .of_std ((stdL_iff us).mp hs u hu)
          · rw [List.map_append, List.map_map, nodesL_app, show us.map ((fun x : DL.W × DL.W => x.1) ∘ fun u => (u, u)) = us from List.map_id us]
            omega
      obtain ⟨a, b⟩ := p
      rcases hp with ⟨x, rfl, rfl⟩ | ⟨n, rfl, rfl⟩ | ⟨us, rfl, hs, rfl | ⟨i, rfl, hi⟩⟩
      · walk_at "dl"
        exact done rfl
      · walk_at "dl"
        rw [e_isi (t := "int") (b := false) rfl kit_is]
        walk_at "dl"
        exact done rfl
      · have hul := nodesL_len us
        have hn3 : nodesL (t2.map (·.1)) + (nodesL us + 1) + i ≤ 39001 := hn2
        walk_at "dl"
        rw [e_isi (t := "tuple") (b := false) rfl kit_ts]
        walk_at "dl"
        rw [e_isi (t := "tuple") (b := false) rfl kit_ti]
        walk_at "dl"
        refine ⟨by omega, by omega, ?_⟩
        refine go us (.tup us) rfl hs (fun x k hk Q h => ?_) _ ?_
        · rw [e_ixAT (atI_nat (List.getElem?_eq_getElem hk))]
          exact h
        · rfl
      · have hul := nodesL_len us
        have hn3 : nodesL (t2.map (·.1)) + (nodesL us + 1) + _ ≤ 39001 := hn2
        have hi2 : ∀ x : O, (S ++ [x])[i]? = some (.lst us) := fun x => get_old hi
        walk_at "dl"
        rw [e_isi (t := "list") (b := false) (tyW_L (hi2 _)) kit_ls]
        walk_at "dl"
        rw [e_isi (t := "list") (b := false) (tyW_L (hi2 _)) kit_li]
        walk_at "dl"
        rw [e_lenAL (hi2 _)]
        walk_at "dl"
        refine ⟨by omega, by omega, ?_⟩
        refine go us (.ref i) rfl hs (fun x k hk Q h => ?_) _ ?_
        · rw [e_ixAL (hi2 _) (atI_nat (List.getElem?_eq_getElem hk))]
          exact h
        · rfl
  · rintro e s ⟨todo, x3, x4, x5, hsm, hn, rfl, rfl⟩
    rw [rng_len] at hn
    exact absurd hn (by show ¬ (_ + 40000 ≤ 39001); omega)

end K25

namespace K25
open PySem PySem.Spec PyProof.Rows L2 TL DL
local macro_rules | `(tactic| walk_at "dl") => `(tactic| try simp (config := { decide := false }) only [e_seq, e_asg, e_nm, e_op, e_un, e_cb, e_c, e_var, e_ifs, e_tru, e_B, e_drop, e_bm, e_bm0, e_ret, e_retN, e_next, e_break, e_cont, e_nil, e_cons, e_tup, e_lst, e_sl, e_onone, e_osome, e_gsub, e_call, e_callk, e_and, e_or, e_not, e_andv, e_orv, e_notv, e_notU, e_isI, e_isS, e_isT, e_isR, e_isN, e_if, e_par, e_for, e_comp, e_iseq, e_rng1, e_rng3, e_zip, e_dictC, e_sc2, e_iseqF, e_yes, e_dictN, src_cells, src_great, src_rest, src_count, src_putR, src_putC, src_len, sz4l, e_nget1, e_nget2, e_lockN, e_dictCN, e_disp, e_ap0, e_ap1, e_gtp, e_gc, e_gn0,
  e_addI, e_addS, e_addT, e_addL, e_i20, e_i2, e_neg, e_cmpI, e_cmpS, e_eqI, e_eqS, e_eqB, e_ixT, e_ixLit, e_ixL, e_ixS, e_set, e_ixAT, e_ixALit, e_ixAL, e_ixAS, e_ixAD, e_setAL, e_setAD, e_dict0, e_inAL, e_inAT, e_inAD, e_inAS, e_listAT, e_listALit, e_listAL, e_listAD, e_max2, e_extend, e_isalpha, e_enum, keyW, sz0, sz1, sz2, sz3, sz4, sz5, sz6, O.dk.injEq, e_slT, e_slLit, e_slS, e_slL, e_lenAS, e_lenAT, e_lenALit, e_lenAL, e_lenAD, e_lenS, e_lenT, e_lenLit, e_lenL, e_i1, e_intI, e_intB, e_strI, e_strS, e_listT, e_listLit, e_listL, e_tupleT, e_tupleL, e_append, e_pop0, e_tyL, e_tyS, e_truL, e_truT, e_truB, e_truI, e_truS, e_truN, e_seqT, e_seqLit, e_seqL, e_in, e_inT, e_isi, kit_ll, kit_ss, kit_tt, kit_ii, kit_ib, tyW_L, tyW_S, tyW_T, tyW_I, tyW_B, cut_to1, cut_to2, cut_from1, wipeW_nil, wipeW_cons, Nat.reduceAdd, eq_self, List.map_cons, List.map_nil,
  atI_0, atI_1, atI_2, atI_3, atI_4, atI_5, atI_end, ixN_0, ixN_1, ixN_11, ixN_last, List.map_append, List.map_cons, List.map_nil, get_app, get_app0, set_app, set_app0, List.cons_append, List.nil_append, List.append_assoc, List.length_append, List.length_cons, List.length_nil, Nat.zero_add, List.length_map, List.length_set,
  List.getElem?_cons_zero, List.getElem?_cons_succ, List.set_cons_zero, List.set_cons_succ, Option.some.injEq, exists_eq_left', exists_eq_left, exists_and_left, W.int.injEq, W.bl.injEq, W.str.injEq, W.tup.injEq, W.ref.injEq, O.lst.injEq, List.cons.injEq, reduceCtorEq, false_and, exists_false, or_false, false_or, true_and, and_true, decide_eq_true_eq, Bool.false_xor, Bool.true_xor, Bool.not_eq_true', decide_eq_false_iff_not, List.isEmpty_cons, List.isEmpty_nil, Bool.not_true, Bool.not_false, if_true, if_false, not_true_eq_false, not_false_eq_true, ne_eq, Bool.false_eq_true, reduceIte])


variable {P : Program} {w : World}
/-! ### rows by what calls tell -/
abbrev kvG (e : List Int × Nat) : DL.W × DL.W := (intsT e.1, .ref e.2)
structure Grp (P : Program) (w : World) (S : Sto) (p : Nat) (z : Option Obj) (cols : List Nat) (done : List (List Int)) (es : List (List Int × Nat)) : Prop where
  dict : S[p]? = some (.nd P w z (es.map kvG))
  nd : (es.map (·.1)).Nodup
  inj : (es.map (·.2)).Nodup
  ne : ∀ e ∈ es, e.2 ≠ p
  lst : ∀ e ∈ es, S[e.2]? = some (.lst ((done.filter fun r => decide (told cols r = e.1)).map intsT))
  mem : ∀ k, k ∈ es.map (·.1) ↔ ∃ r ∈ done, told cols r = k
theorem valG {es : List (List Int × Nat)} {k : List Int} : valN (es.map kvG) (intsT k) = (es.find? fun e => decide (e.1 = k)).map fun e => DL.W.ref e.2 := by
  unfold valN
  induction es with
  | nil => rfl
  | cons p es ih =>
    rw [List.map_cons, List.find?_cons, List.find?_cons]
    by_cases h : p.1 = k
    · have h2 : nkW (kvG p).1 = nkW (intsT k) := nkW_intsT.mpr h
      rw [decide_eq_true h, decide_eq_true h2]
      rfl
    · have h2 : ¬ nkW (kvG p).1 = nkW (intsT k) := fun e => h (nkW_intsT.mp e)
      rw [decide_eq_false h, decide_eq_false h2]
      exact ih
theorem valG_at {es : List (List Int × Nat)} (nd : (es.map (·.1)).Nodup) {e : List Int × Nat} (h : e ∈ es) : valN (es.map kvG) (intsT e.1) = some (.ref e.2) := by
  rw [valG]
  induction es with
  | nil => cases h
  | cons x es ih =>
    rw [List.map_cons, List.nodup_cons] at nd
    rw [List.find?_cons]
    by_cases q : x.1 = e.1
    · rw [decide_eq_true q]
      rcases List.mem_cons.mp h with e2 | h2
      · rw [e2]
        rfl
      · exact absurd (List.mem_map.mpr ⟨e, h2, q.symm⟩) nd.1
    · rw [decide_eq_false q]
      rcases List.mem_cons.mp h with e2 | h2
      · exact absurd (by rw [e2]) q
      · exact ih nd.2 h2
theorem valG_none {es : List (List Int × Nat)} {k : List Int} (h : k ∉ es.map (·.1)) : valN (es.map kvG) (intsT k) = none := by
  rw [valG, Option.map_eq_none_iff, List.find?_eq_none]
  intro e he
  rw [decide_eq_true_eq]
  exact fun q => h (q ▸ List.mem_map_of_mem he)
theorem putG_new {es : List (List Int × Nat)} {k : List Int} {j : Nat} (h : k ∉ es.map (·.1)) : putN (es.map kvG) (intsT k) (.ref j) = (es ++ [(k, j)]).map kvG := by
  unfold putN
  rw [valG_none h, if_neg (by simp), List.map_append]
  rfl
theorem grp_nil {S : Sto} {cols : List Nat} : Grp P w (S ++ [.nd P w none []]) S.length none cols [] [] :=
  ⟨get_app0, by simp, by simp, by simp, by simp, fun k => by simp⟩
section
variable {S : Sto} {p : Nat} {z : Option Obj} {cols : List Nat} {done : List (List Int)} {es : List (List Int × Nat)}
theorem Grp.app (h : Grp P w S p z cols done es) (G : Sto) : Grp P w (S ++ G) p z cols done es :=
  ⟨get_old h.dict, h.nd, h.inj, h.ne, fun e he => get_old (h.lst e he), h.mem⟩
theorem Grp.lock (h : Grp P w S p z cols done es) (o : Obj) : Grp P w (S.set p (.nd P w (some o) (es.map kvG))) p (some o) cols done es :=
  ⟨List.getElem?_set_self (List.getElem?_eq_some_iff.mp h.dict).1, h.nd, h.inj, h.ne, fun e he => by rw [List.getElem?_set_ne (Ne.symm (h.ne e he))]; exact h.lst e he, h.mem⟩
theorem Grp.ne_nil (h : Grp P w S p z cols done es) {e : List Int × Nat} (he : e ∈ es) : done.filter (fun r => decide (told cols r = e.1)) ≠ [] := by
  obtain ⟨r, hr, q⟩ := (h.mem e.1).mp (List.mem_map_of_mem he)
  exact List.ne_nil_of_mem (List.mem_filter.mpr ⟨hr, decide_eq_true q⟩)
/-- a row of a call that is there -/
theorem Grp.old (h : Grp P w S p z cols done es) {r : List Int} {e : List Int × Nat} (he : e ∈ es) (hr : told cols r = e.1) :
    Grp P w (S.set e.2 (.lst ((done.filter fun x => decide (told cols x = e.1)).map intsT ++ [intsT r]))) p z cols (done ++ [r]) es := by
  refine ⟨by rw [List.getElem?_set_ne (h.ne e he)]; exact h.dict, h.nd, h.inj, h.ne, fun f hf => ?_, fun k => ?_⟩
  · by_cases q : f.2 = e.2
    · have fe : f = e := by
        obtain ⟨i, hi⟩ := List.getElem?_of_mem hf
        obtain ⟨j, hj⟩ := List.getElem?_of_mem he
        have hij : i = j := by
          obtain ⟨h1, e1⟩ := List.getElem?_eq_some_iff.mp hi
          obtain ⟨h2, e2⟩ := List.getElem?_eq_some_iff.mp hj
          refine (List.getElem_inj (h₀ := by rw [List.length_map]; exact h1) (h₁ := by rw [List.length_map]; exact h2) h.inj).mp ?_
          rw [List.getElem_map, List.getElem_map, e1, e2]
          exact q
        subst hij
        rw [hi] at hj
        exact Option.some.inj hj
      subst fe
      have e1 : [r].filter (fun x => decide (told cols x = f.1)) = [r] := by simp [hr]
      rw [List.getElem?_set_self (List.getElem?_eq_some_iff.mp (h.lst f hf)).1, List.filter_append, List.map_append, e1]
      rfl
    · have hk : told cols r ≠ f.1 := fun z => q (by
        have e1 : f.1 = e.1 := z.symm.trans hr
        obtain ⟨i, hi⟩ := List.getElem?_of_mem hf
        obtain ⟨j, hj⟩ := List.getElem?_of_mem he
        have hij : i = j := by
          obtain ⟨h1, e2⟩ := List.getElem?_eq_some_iff.mp hi
          obtain ⟨h2, e3⟩ := List.getElem?_eq_some_iff.mp hj
          refine (List.getElem_inj (h₀ := by rw [List.length_map]; exact h1) (h₁ := by rw [List.length_map]; exact h2) h.nd).mp ?_
          rw [List.getElem_map, List.getElem_map, e2, e3]
          exact e1
        subst hij
        rw [hi] at hj
        rw [Option.some.inj hj])
      rw [List.getElem?_set_ne (Ne.symm q), h.lst f hf, List.filter_append, List.filter_cons_of_neg (by rw [decide_eq_true_eq]; exact hk)]
      simp
  · rw [h.mem]
    constructor
    · rintro ⟨x, hx, q⟩
      exact ⟨x, List.mem_append_left _ hx, q⟩
    · rintro ⟨x, hx, q⟩
      rcases List.mem_append.mp hx with hx | hx
      · exact ⟨x, hx, q⟩
      · rw [List.mem_singleton.mp hx] at q
        rw [← q, hr]
        exact (h.mem e.1).mp (List.mem_map_of_mem he)
/-- a row of a new call -/
theorem Grp.new (h : Grp P w S p none cols done es) {r : List Int} (hr : told cols r ∉ es.map (·.1)) :
    Grp P w ((S ++ [O.lst [intsT r]]).set p (.nd P w none (putN (es.map kvG) (intsT (told cols r)) (.ref S.length)))) p none cols (done ++ [r]) (es ++ [(told cols r, S.length)]) := by
  have hp := (List.getElem?_eq_some_iff.mp h.dict).1
  have hlt : ∀ e ∈ es, e.2 < S.length := fun e he => (List.getElem?_eq_some_iff.mp (h.lst e he)).1
  refine ⟨?_, ?_, ?_, fun e he => ?_, fun e he => ?_, fun k => ?_⟩
  · rw [List.getElem?_set_self (by rw [List.length_append]; omega), putG_new hr]
  · rw [List.map_append]
    exact List.nodup_append.mpr ⟨h.nd, by simp, fun a ha b hb e => by
      rw [List.map_cons, List.map_nil, List.mem_singleton] at hb
      have hb' : b = told cols r := hb
      exact hr (hb' ▸ e ▸ ha)⟩
  · rw [List.map_append]
    refine List.nodup_append.mpr ⟨h.inj, by simp, fun a ha b hb e => ?_⟩
    rw [List.map_cons, List.map_nil, List.mem_singleton] at hb
    obtain ⟨f, hf, rfl⟩ := List.mem_map.mp ha
    have := hlt f hf
    omega
  · rcases List.mem_append.mp he with he | he
    · exact h.ne e he
    · rw [List.mem_singleton.mp he]
      exact Nat.ne_of_gt hp
  · rcases List.mem_append.mp he with he | he
    · rw [List.getElem?_set_ne (Ne.symm (h.ne e he)), get_old (h.lst e he), List.filter_append, List.filter_cons_of_neg (by rw [decide_eq_true_eq]; exact fun q => hr (q ▸ List.mem_map_of_mem he))]
      simp
    · rw [List.mem_singleton.mp he]
      rw [List.getElem?_set_ne (Nat.ne_of_lt hp), newA]
      have e1 : [r].filter (fun x => decide (told cols x = told cols r)) = [r] := by simp
      have e2 : done.filter (fun x => decide (told cols x = told cols r)) = [] := List.filter_eq_nil_iff.mpr fun x hx => by
        rw [decide_eq_true_eq]
        exact fun q => hr ((h.mem _).mpr ⟨x, hx, q⟩)
      show some _ = some (O.lst (((done ++ [r]).filter fun x => decide (told cols x = told cols r)).map intsT))
      rw [List.filter_append, e1, e2]
      rfl
  · rw [List.map_append, List.mem_append, h.mem, List.map_cons, List.map_nil, List.mem_singleton]
    constructor
    · rintro (⟨x, hx, q⟩ | q)
      · exact ⟨x, List.mem_append_left _ hx, q⟩
      · exact ⟨r, by simp, q.symm⟩
    · rintro ⟨x, hx, q⟩
      rcases List.mem_append.mp hx with hx | hx
      · exact .inl ⟨x, hx, q⟩
      · rw [List.mem_singleton.mp hx] at q
        exact .inr q.symm
theorem Grp.len (h : Grp P w S p z cols done es) : es.length ≤ done.length := by
  have z : (es.map (·.1)).length ≤ (done.map (told cols)).length := List.Nodup.length_le_of_subset h.nd fun k hk => by
    obtain ⟨r, hr, q⟩ := (h.mem k).mp hk
    exact List.mem_map.mpr ⟨r, hr, q⟩
  rwa [List.length_map, List.length_map] at z
end

end K25

namespace K25
open PySem PySem.Spec PyProof.Rows L2 TL DL
local macro_rules | `(tactic| walk_at "dl") => `(tactic| try simp (config := { decide := false }) only [e_seq, e_asg, e_nm, e_op, e_un, e_cb, e_c, e_var, e_ifs, e_tru, e_B, e_drop, e_bm, e_bm0, e_ret, e_retN, e_next, e_break, e_cont, e_nil, e_cons, e_tup, e_lst, e_sl, e_onone, e_osome, e_gsub, e_call, e_callk, e_and, e_or, e_not, e_andv, e_orv, e_notv, e_notU, e_isI, e_isS, e_isT, e_isR, e_isN, e_if, e_par, e_for, e_comp, e_iseq, e_rng1, e_rng3, e_zip, e_dictC, e_sc2, e_iseqF, e_yes, e_dictN, src_cells, src_great, src_rest, src_count, src_putR, src_putC, src_len, sz4l, e_nget1, e_nget2, e_lockN, e_dictCN, e_disp, e_ap0, e_ap1, e_gtp, e_gc, e_gn0,
  e_addI, e_addS, e_addT, e_addL, e_i20, e_i2, e_neg, e_cmpI, e_cmpS, e_eqI, e_eqS, e_eqB, e_ixT, e_ixLit, e_ixL, e_ixS, e_set, e_ixAT, e_ixALit, e_ixAL, e_ixAS, e_ixAD, e_setAL, e_setAD, e_dict0, e_inAL, e_inAT, e_inAD, e_inAS, e_listAT, e_listALit, e_listAL, e_listAD, e_max2, e_extend, e_isalpha, e_enum, keyW, sz0, sz1, sz2, sz3, sz4, sz5, sz6, O.dk.injEq, e_slT, e_slLit, e_slS, e_slL, e_lenAS, e_lenAT, e_lenALit, e_lenAL, e_lenAD, e_lenS, e_lenT, e_lenLit, e_lenL, e_i1, e_intI, e_intB, e_strI, e_strS, e_listT, e_listLit, e_listL, e_tupleT, e_tupleL, e_append, e_pop0, e_tyL, e_tyS, e_truL, e_truT, e_truB, e_truI, e_truS, e_truN, e_seqT, e_seqLit, e_seqL, e_in, e_inT, e_isi, kit_ll, kit_ss, kit_tt, kit_ii, kit_ib, tyW_L, tyW_S, tyW_T, tyW_I, tyW_B, cut_to1, cut_to2, cut_from1, wipeW_nil, wipeW_cons, Nat.reduceAdd, eq_self, List.map_cons, List.map_nil,
  atI_0, atI_1, atI_2, atI_3, atI_4, atI_5, atI_end, ixN_0, ixN_1, ixN_11, ixN_last, List.map_append, List.map_cons, List.map_nil, get_app, get_app0, set_app, set_app0, List.cons_append, List.nil_append, List.append_assoc, List.length_append, List.length_cons, List.length_nil, Nat.zero_add, List.length_map, List.length_set,
  List.getElem?_cons_zero, List.getElem?_cons_succ, List.set_cons_zero, List.set_cons_succ, Option.some.injEq, exists_eq_left', exists_eq_left, exists_and_left, W.int.injEq, W.bl.injEq, W.str.injEq, W.tup.injEq, W.ref.injEq, O.lst.injEq, List.cons.injEq, reduceCtorEq, false_and, exists_false, or_false, false_or, true_and, and_true, decide_eq_true_eq, Bool.false_xor, Bool.true_xor, Bool.not_eq_true', decide_eq_false_iff_not, List.isEmpty_cons, List.isEmpty_nil, Bool.not_true, Bool.not_false, if_true, if_false, not_true_eq_false, not_false_eq_true, ne_eq, Bool.false_eq_true, reduceIte])


/-! ### stores that grow -/
theorem closed_snoc {S : Sto} {o : O} (c : Closed S) (h : o.bnd (S.length + 1) = true) : Closed (S ++ [o]) := by
  rw [closed_iff] at c ⊢
  intro x hx
  rw [List.length_append]
  rcases List.mem_append.mp hx with h' | h'
  · exact O_bnd_mono (Nat.le_succ _) x (c x h')
  · rw [List.mem_singleton.mp h']
    exact h
theorem closed_put {S : Sto} {o : O} {j : Nat} (c : Closed S) (h : o.bnd S.length = true) : Closed (S.set j o) := by
  rw [closed_iff] at c ⊢
  intro x hx
  rw [List.length_set]
  rcases List.mem_or_eq_of_mem_set hx with h' | rfl
  · exact c x h'
  · exact h
theorem set_far {S G : Sto} {j : Nat} {o : O} (h : S.length ≤ j) : (S ++ G).set j o = S ++ G.set (j - S.length) o := by
  rw [List.set_append_right _ _ h]
theorem kvG_bnd {es : List (List Int × Nat)} {n : Nat} {P : Program} {w : World} {z : Option Obj} (h : ∀ e ∈ es, e.2 < n) : (O.nd P w z (es.map kvG)).bnd n = true := by
  show W.bndL n ((es.map kvG).map (·.2)) = true
  rw [bndL_all, List.all_eq_true]
  intro x hx
  rw [List.map_map] at hx
  obtain ⟨e, he, rfl⟩ := List.mem_map.mp hx
  exact decide_eq_true (h e he)
theorem ints_bnd (us : List (List Int)) (n : Nat) : (O.lst (us.map intsT)).bnd n = true := pureL_bnd n _ (pureL_intsT us)
variable {P : Program} {w : World}
/-! ### door_of, told_of, rows_of -/
def F_door_of : DSpec := fun ws S Q => ∃ (x0 x1 x3 x4 x5 : DL.W) (ds : List Door) (d : Door), ws = [.tup [x0, x1, .tup (ds.map doorW), x3, x4, x5], .str d.name] ∧ (ds.map (·.name)).Nodup ∧ d ∈ ds ∧ d.cols.length ≤ 4 ∧ Q (doorW d) S
theorem door_pure (d : Door) : (doorW d).pure = true := by
  show (true && (true && (W.pureL (colsW d.cols) && (true && true)))) = true
  rw [pureL_cols]
  rfl
theorem door_uniq {ds : List Door} (nd : (ds.map (·.name)).Nodup) {t u : Door} (ht : t ∈ ds) (hu : u ∈ ds) (e : t.name = u.name) : t = u := by
  induction ds with
  | nil => cases ht
  | cons x ts ih =>
    rw [List.map_cons, List.nodup_cons] at nd
    rcases List.mem_cons.mp ht with e1 | ht1
    · rcases List.mem_cons.mp hu with e2 | hu1
      · rw [e1, e2]
      · exact absurd (show x.name ∈ ts.map (·.name) by rw [← e1, e]; exact List.mem_map_of_mem hu1) nd.1
    · rcases List.mem_cons.mp hu with e2 | hu1
      · exact absurd (show x.name ∈ ts.map (·.name) by rw [← e2, ← e]; exact List.mem_map_of_mem ht1) nd.1
      · exact ih nd.2 ht1 hu1
theorem vc_door_of : ∀ ws S Q, Closed S → F_door_of ws S Q → d_door_of (endsW S.length Q) (startW N_door_of.length ws) S := by
  rintro ws S Q cl ⟨x0, x1, x3, x4, x5, ds, d, rfl, nd, hdm, _, q⟩
  show d_door_of _ [some (.tup [x0, x1, .tup (ds.map doorW), x3, x4, x5]), some (.str d.name), none] _
  unfold d_door_of
  walk_at "dl"
  refine forM (fun pre e s => d ∉ pre ∧ s = S ∧ ∃ x2', e = [some (.tup [x0, x1, .tup (ds.map doorW), x3, x4, x5]), some (.str d.name), x2']) ⟨by simp, rfl, _, rfl⟩ ?_ ?_
  · rintro pre u post e s hpre ⟨hn, rfl, x2', rfl⟩ N hN
    refine ⟨trivial, ?_⟩
    have hum : u ∈ ds := by rw [hpre]; simp
    walk_at "dl"
    split
    · rename_i he
      have e := door_uniq nd hum hdm he
      subst e
      exact Ends0.keep (Nat.le_refl _) cl (pure_bnd _ _ (door_pure _)) q
    · rename_i he
      refine hN _ _ ⟨fun h => ?_, rfl, _, rfl⟩
      rcases List.mem_append.mp h with h | h
      · exact hn h
      · exact he (by rw [List.mem_singleton.mp h])
  · rintro e s ⟨hn, _⟩
    exact absurd hdm hn
def F_told_of : DSpec := fun ws S Q => ∃ (d : Door) (r : List Int), ws = [doorW d, intsT r] ∧ (∀ c ∈ d.cols, c < r.length) ∧ d.cols.length ≤ 4 ∧ Q (intsT (told d.cols r)) S
theorem vc_told_of : ∀ ws S Q, Closed S → F_told_of ws S Q → d_told_of (endsW S.length Q) (startW N_told_of.length ws) S := by
  rintro ws S Q cl ⟨d, r, rfl, h, hl, q⟩
  show d_told_of _ [some (doorW d), some (intsT r), none] _
  unfold d_told_of
  walk_at "dl"
  refine told_comp h hl trivial rfl (by decide) (by show 2 < 3; decide) ?_
  rw [e_tupleL newA]
  exact end_drop cl (pureL_ints _) q
def F_rows_of : DSpec := fun ws S Q => ∃ (rows : List Row) (T : Str), ws = [storeW rows, .str T] ∧ rows.length ≤ 300 ∧ Q (.tup ((rowsOf rows T).map intsT)) S
theorem vc_rows_of : ∀ ws S Q, Closed S → F_rows_of ws S Q → d_rows_of (endsW S.length Q) (startW N_rows_of.length ws) S := by
  rintro ws S Q cl ⟨rows, T, rfl, hl, q⟩
  show d_rows_of _ [some (storeW rows), some (.str T), none] _
  unfold d_rows_of
  walk_at "dl"
  refine compN (h := fun p : Row => intsT p.2) (p := fun p : Row => decide (p.1 = T)) trivial (by omega) (fun p hp QT k => ?_) (fun p hp hp2 K k => ?_) ?_
  · walk_at "dl"
    exact k
  · walk_at "dl"
    exact k
  · rw [e_tupleL newA]
    unfold rowsOf at q
    rw [List.map_map] at q
    exact end_drop cl (pureL_of fun w hw => by obtain ⟨p, _, rfl⟩ := List.mem_map.mp hw; exact pureL_ints _) q
/-! ### matched_by -/
theorem e_nsd {d0 da dx : DE} {env : Slots} {S : Sto} {Q : WK} : dNSd P w d0 da dx env S Q = d0 env S fun x S1 => ∃ p, x = .ref p ∧ (∃ z kvs, S1[p]? = some (.nd P w z kvs)) ∧ da env S1 fun y S2 => dx env S2 fun u S3 => ∃ kvs, S3[p]? = some (.nd P w none kvs) ∧ HkW y ∧ kvs.length < sizeLine ∧
  match valN kvs y with
  | some v => Q v S3
  | none => Q u (S3.set p (.nd P w none (putN kvs y u))) := rfl
def F_matched (P : Program) (w : World) : DSpec := fun ws S Q => ∃ ts rows d, ws = [storeW rows, doorW d] ∧ OkTabs ts ∧ OkStore ts rows ∧ OkDoor ts d ∧ ∀ (G : Sto) (p : Nat) (es : List (List Int × Nat)), Closed (S ++ G) → S.length ≤ p → (∀ e ∈ es, S.length ≤ e.2) → Grp P w (S ++ G) p none d.cols (rowsOf rows d.table) es → Q (.ref p) (S ++ G)
theorem vc_matched : ∀ ws S Q, Closed S → F_matched P w ws S Q → d_matched_by P w F_rows_of F_told_of (endsW S.length Q) (startW N_matched_by.length ws) S := by
  rintro ws S Q cl ⟨ts, rows, d, rfl, okT, okS, okD, q⟩
  show d_matched_by P w F_rows_of F_told_of _ [some (storeW rows), some (doorW d), none, none] _
  unfold d_matched_by
  have hrl : (rowsOf rows d.table).length ≤ 300 := Nat.le_trans rowsOf_len okS.len
  walk_at "dl"
  refine ⟨rows, d.table, rfl, okS.len, ?_⟩
  walk_at "dl"
  refine forM (fun pre e s => ∃ (G : Sto) (es : List (List Int × Nat)) (x3 : Option DL.W), Closed (S ++ G) ∧ (∀ e ∈ es, S.length ≤ e.2) ∧ Grp P w (S ++ G) S.length none d.cols pre es ∧ e = [some (storeW rows), some (doorW d), some (.ref S.length), x3] ∧ s = S ++ G)
    ⟨[.nd P w none []], [], _, closed_snoc cl rfl, by simp, grp_nil, rfl, rfl⟩ ?_ ?_
  · rintro pre r post e s hpre ⟨G, es, x3, clG, hfar, gr, rfl, rfl⟩ N hN
    have hrm : r ∈ rowsOf rows d.table := by rw [hpre]; simp
    have hpl : pre.length < 300 := by
      have := congrArg List.length hpre
      rw [List.length_append, List.length_cons] at this
      omega
    have hesl := gr.len
    refine ⟨trivial, ?_⟩
    rw [e_nm, e_drop, e_bm, e_nsd, e_var rfl]
    refine ⟨_, rfl, ⟨_, _, gr.dict⟩, ?_⟩
    rw [e_call, e_cons, e_var rfl, e_cons, e_var rfl, e_nil]
    refine ⟨d, r, rfl, (rowsOf_ok okT okS okD r hrm).2, okD.len, ?_⟩
    show dLst aNil _ _ _
    rw [e_lst, e_nil]
    refine ⟨Nat.zero_le _, es.map kvG, get_old gr.dict, hkW_ints _, lt_sz (by rw [List.length_map]; omega), ?_⟩
    have clN : Closed (S ++ G ++ [.lst []]) := closed_snoc clG rfl
    by_cases hk : told d.cols r ∈ es.map (·.1)
    · obtain ⟨e, he, hke⟩ := List.mem_map.mp hk
      rw [← hke, valG_at gr.nd he]
      have gr2 := gr.app [.lst []]
      have hl := gr2.lst e he
      refine ⟨by rw [e_tyL hl]; trivial, ?_⟩
      rw [e_cons, e_var rfl, e_nil, e_append hl]
      have g3 := gr2.old he hke.symm
      have c3 := closed_put (j := e.2) clN (o := .lst ((pre.filter fun x => decide (told d.cols x = e.1)).map intsT ++ [intsT r])) (pureL_bnd _ _ (by
        rw [pureL_all, List.all_append, ← pureL_all, pureL_intsT]
        show (true && (W.pureL (r.map W.int) && true)) = true
        rw [pureL_ints]
        rfl))
      rw [List.append_assoc, set_far (hfar e he)] at g3 c3
      refine ⟨lt_sz (by rw [List.length_map]; have := List.length_filter_le (fun x => decide (told d.cols x = e.1)) pre; omega), hN _ _ ⟨_, es, _, c3, hfar, g3, rfl, ?_⟩⟩
      rw [List.append_assoc, set_far (hfar e he)]
    · rw [valG_none hk]
      have hne : S.length ≠ (S ++ G).length := by
        have := (List.getElem?_eq_some_iff.mp gr.dict).1
        omega
      have hl : ((S ++ G ++ [O.lst []]).set S.length (.nd P w none (putN (es.map kvG) (intsT (told d.cols r)) (.ref (S ++ G).length))))[(S ++ G).length]? = some (.lst []) := by
        rw [List.getElem?_set_ne hne]
        exact newA
      refine ⟨by rw [e_tyL hl]; trivial, ?_⟩
      rw [e_cons, e_var rfl, e_nil, e_append hl]
      have g3 := gr.new hk
      have es2 : ((S ++ G ++ [O.lst []]).set S.length (.nd P w none (putN (es.map kvG) (intsT (told d.cols r)) (.ref (S ++ G).length)))).set (S ++ G).length (.lst ([] ++ [intsT r])) = (S ++ G ++ [O.lst [intsT r]]).set S.length (.nd P w none (putN (es.map kvG) (intsT (told d.cols r)) (.ref (S ++ G).length))) := by
        rw [List.set_comm _ _ hne, set_app0 (R := S ++ G), List.set_cons_zero]
        rfl
      rw [es2]
      have c3 : Closed ((S ++ G ++ [O.lst [intsT r]]).set S.length (.nd P w none (putN (es.map kvG) (intsT (told d.cols r)) (.ref (S ++ G).length)))) := by
        refine closed_put (closed_snoc clG (ints_bnd [r] _)) ?_
        rw [putG_new hk]
        refine kvG_bnd fun e he => ?_
        rw [List.length_append, List.length_cons, List.length_nil]
        rcases List.mem_append.mp he with h | h
        · have := (List.getElem?_eq_some_iff.mp (gr.lst e h)).1
          omega
        · rw [List.mem_singleton.mp h]
          exact Nat.lt_succ_self _
      have far2 : ∀ e ∈ es ++ [(told d.cols r, (S ++ G).length)], S.length ≤ e.2 := fun e he => by
        rcases List.mem_append.mp he with h | h
        · exact hfar e h
        · rw [List.mem_singleton.mp h, List.length_append]
          exact Nat.le_add_right _ _
      rw [List.append_assoc, set_far (Nat.le_refl _)] at g3 c3 ⊢
      exact ⟨lt_sz (by decide), hN _ _ ⟨_, _, _, c3, far2, g3, rfl, rfl⟩⟩
  · rintro e s ⟨G, es, x3, clG, hfar, gr, rfl, rfl⟩
    refine ⟨trivial, ?_⟩
    walk_at "dl"
    exact Ends0.keep (by simp) clG (decide_eq_true (by have := (List.getElem?_eq_some_iff.mp gr.dict).1; omega)) (q G S.length es clG (Nat.le_refl _) hfar gr)

end K25

namespace K25
open PySem PySem.Spec PyProof.Rows L2 TL DL
local macro_rules | `(tactic| walk_at "dl") => `(tactic| try simp (config := { decide := false }) only [e_seq, e_asg, e_nm, e_op, e_un, e_cb, e_c, e_var, e_ifs, e_tru, e_B, e_drop, e_bm, e_bm0, e_ret, e_retN, e_next, e_break, e_cont, e_nil, e_cons, e_tup, e_lst, e_sl, e_onone, e_osome, e_gsub, e_call, e_callk, e_and, e_or, e_not, e_andv, e_orv, e_notv, e_notU, e_isI, e_isS, e_isT, e_isR, e_isN, e_if, e_par, e_for, e_comp, e_iseq, e_rng1, e_rng3, e_zip, e_dictC, e_sc2, e_iseqF, e_yes, e_dictN, src_cells, src_great, src_rest, src_count, src_putR, src_putC, src_len, sz4l, e_nget1, e_nget2, e_lockN, e_dictCN, e_disp, e_ap0, e_ap1, e_gtp, e_gc, e_gn0,
  e_addI, e_addS, e_addT, e_addL, e_i20, e_i2, e_neg, e_cmpI, e_cmpS, e_eqI, e_eqS, e_eqB, e_ixT, e_ixLit, e_ixL, e_ixS, e_set, e_ixAT, e_ixALit, e_ixAL, e_ixAS, e_ixAD, e_setAL, e_setAD, e_dict0, e_inAL, e_inAT, e_inAD, e_inAS, e_listAT, e_listALit, e_listAL, e_listAD, e_max2, e_extend, e_isalpha, e_enum, keyW, sz0, sz1, sz2, sz3, sz4, sz5, sz6, O.dk.injEq, e_slT, e_slLit, e_slS, e_slL, e_lenAS, e_lenAT, e_lenALit, e_lenAL, e_lenAD, e_lenS, e_lenT, e_lenLit, e_lenL, e_i1, e_intI, e_intB, e_strI, e_strS, e_listT, e_listLit, e_listL, e_tupleT, e_tupleL, e_append, e_pop0, e_tyL, e_tyS, e_truL, e_truT, e_truB, e_truI, e_truS, e_truN, e_seqT, e_seqLit, e_seqL, e_in, e_inT, e_isi, kit_ll, kit_ss, kit_tt, kit_ii, kit_ib, tyW_L, tyW_S, tyW_T, tyW_I, tyW_B, cut_to1, cut_to2, cut_from1, wipeW_nil, wipeW_cons, Nat.reduceAdd, eq_self, List.map_cons, List.map_nil,
  atI_0, atI_1, atI_2, atI_3, atI_4, atI_5, atI_end, ixN_0, ixN_1, ixN_11, ixN_last, List.map_append, List.map_cons, List.map_nil, get_app, get_app0, set_app, set_app0, List.cons_append, List.nil_append, List.append_assoc, List.length_append, List.length_cons, List.length_nil, Nat.zero_add, List.length_map, List.length_set,
  List.getElem?_cons_zero, List.getElem?_cons_succ, List.set_cons_zero, List.set_cons_succ, Option.some.injEq, exists_eq_left', exists_eq_left, exists_and_left, W.int.injEq, W.bl.injEq, W.str.injEq, W.tup.injEq, W.ref.injEq, O.lst.injEq, List.cons.injEq, reduceCtorEq, false_and, exists_false, or_false, false_or, true_and, and_true, decide_eq_true_eq, Bool.false_xor, Bool.true_xor, Bool.not_eq_true', decide_eq_false_iff_not, List.isEmpty_cons, List.isEmpty_nil, Bool.not_true, Bool.not_false, if_true, if_false, not_true_eq_false, not_false_eq_true, ne_eq, Bool.false_eq_true, reduceIte])


variable {P : Program} {w : World}
/-! ### due, said by the first pick -/
theorem pick_uniq {ps : List Pick} (ok : OkPicks ps) {p q : Pick} (hp : p ∈ ps) (hq : q ∈ ps) (e1 : p.1 = q.1) (e2 : p.2.1 = q.2.1) : p = q := by
  have nd := ok.nd
  clear ok
  induction ps with
  | nil => cases hp
  | cons x ps ih =>
    rw [List.map_cons, List.nodup_cons] at nd
    rcases List.mem_cons.mp hp with a | a
    · rcases List.mem_cons.mp hq with b | b
      · rw [a, b]
      · exact absurd (List.mem_map.mpr ⟨q, b, by rw [← a, e1, e2]⟩) nd.1
    · rcases List.mem_cons.mp hq with b | b
      · exact absurd (List.mem_map.mpr ⟨p, a, by rw [← b, e1, e2]⟩) nd.1
      · exact ih a b nd.2
def pickR (a : List Int) (l : List (List Int)) : Option (List Int) → List Int
  | some r => if r ∈ a :: l then r else a
  | none => a
theorem due_one {rows : List Row} {ps : List Pick} (ok : OkPicks ps) {d : Door} {call : List Int} (h1 : d.one = true) {a : List Int} {l : List (List Int)} (hm : meets rows d call = a :: l) :
    due rows ps d call = [pickR a l ((ps.find? fun p => decide (p.1 = d.name ∧ p.2.1 = call)).map (·.2.2))] := by
  unfold due
  rw [if_neg (by rw [h1, hm]; simp)]
  cases hf : ps.find? (fun p => decide (p.1 = d.name ∧ p.2.1 = call)) with
  | none =>
    have h2 : ps.find? (fun p => decide (p.1 = d.name ∧ p.2.1 = call ∧ p.2.2 ∈ meets rows d call)) = none := List.find?_eq_none.mpr fun p hp => by
      have z := List.find?_eq_none.mp hf p hp
      rw [decide_eq_true_eq] at z ⊢
      exact fun q => z ⟨q.1, q.2.1⟩
    rw [h2, hm]
    rfl
  | some p =>
    have hpm := List.mem_of_find?_eq_some hf
    have hpp : p.1 = d.name ∧ p.2.1 = call := by
      have z := List.find?_some hf
      simpa only [decide_eq_true_eq] using z
    by_cases hr : p.2.2 ∈ meets rows d call
    · have h2 : ps.find? (fun p => decide (p.1 = d.name ∧ p.2.1 = call ∧ p.2.2 ∈ meets rows d call)) = some p := by
        cases h3 : ps.find? (fun p => decide (p.1 = d.name ∧ p.2.1 = call ∧ p.2.2 ∈ meets rows d call)) with
        | none =>
          have z := List.find?_eq_none.mp h3 p hpm
          rw [decide_eq_true_eq] at z
          exact absurd ⟨hpp.1, hpp.2, hr⟩ z
        | some q =>
          have hq : q.1 = d.name ∧ q.2.1 = call ∧ q.2.2 ∈ meets rows d call := by
            have z := List.find?_some h3
            simpa only [decide_eq_true_eq] using z
          rw [pick_uniq ok (List.mem_of_find?_eq_some h3) hpm (hq.1.trans hpp.1.symm) (hq.2.1.trans hpp.2.symm)]
      rw [h2]
      show [p.2.2] = [if p.2.2 ∈ a :: l then p.2.2 else a]
      rw [if_pos (hm ▸ hr)]
    · have h2 : ps.find? (fun p => decide (p.1 = d.name ∧ p.2.1 = call ∧ p.2.2 ∈ meets rows d call)) = none := List.find?_eq_none.mpr fun q hq => by
        rw [decide_eq_true_eq]
        intro z
        have e := pick_uniq ok hq hpm (z.1.trans hpp.1.symm) (z.2.1.trans hpp.2.symm)
        rw [e] at z
        exact hr z.2.2
      rw [h2]
      show (meets rows d call).take 1 = [if p.2.2 ∈ a :: l then p.2.2 else a]
      rw [if_neg (hm ▸ hr), hm]
      rfl
/-! ### picked_row -/
def optW : Option (List Int) → DL.W
  | some r => intsT r
  | none => .non
def F_picked : DSpec := fun ws S Q => ∃ i a l o, ws = [.ref i, optW o] ∧ S[i]? = some (.lst ((a :: l).map intsT)) ∧ Q (intsT (pickR a l o)) S
theorem none_in (us : List (List Int)) : ((datWs (us.map intsT)).any fun z => PyData.eqv z (datW .non)) = false := by
  induction us with
  | nil => rfl
  | cons u us ih =>
    show (PyData.eqv (.tuple (datWs (u.map W.int))) .none || _) = false
    rw [ih]
    simp [PyData.eqv]
theorem vc_picked : ∀ ws S Q, Closed S → F_picked ws S Q → d_picked_row (endsW S.length Q) (startW N_picked_row.length ws) S := by
  rintro ws S Q cl ⟨i, a, l, o, rfl, hi, q⟩
  show d_picked_row _ [some (.ref i), some (optW o)] _
  unfold d_picked_row
  have fin : ∀ r : List Int, Q (intsT r) S → Ends0 S.length Q (intsT r) S := fun r h => Ends0.keep (Nat.le_refl _) cl (pure_bnd _ _ (pureL_ints r)) h
  have h0 : atI ((a :: l).map intsT) 0 = some (intsT a) := atI_0
  cases o with
  | none =>
    rw [e_ret, e_if, e_B, e_op, e_var rfl, e_var rfl]
    refine ⟨_, hi, rfl, pureL_intsT _, by simp [optW, datW, SeqAt.shaped, PyData.canLay0, PyData.depth], std_shapedL (k := .seq .i) (ints_all_std _) (ints_all_K _), ?_⟩
    show ∃ c, W.bl (false ^^ (datWs ((a :: l).map intsT)).any fun z => PyData.eqv z (datW .non)) = W.bl c ∧ _
    rw [none_in]
    walk_at "dl"
    rw [e_ixAL hi h0]
    exact fin a q
  | some r =>
    rw [e_ret, e_if, e_B, e_op, e_var rfl, e_var rfl]
    refine inP_std (k := .seq .i) (k' := .seq .i) hi (std_ints _) (isK_ints _) (ints_all_std _) (ints_all_K _) (r ∈ a :: l) ?_ ?_
    · rw [List.mem_map]
      exact ⟨fun ⟨x, hx, e⟩ => intsT_inj.mp e ▸ hx, fun h => ⟨_, h, rfl⟩⟩
    · have hq : Q (intsT (if r ∈ a :: l then r else a)) S := q
      rw [Bool.false_xor]
      refine ⟨_, rfl, ?_⟩
      by_cases hr : r ∈ a :: l
      · rw [decide_eq_true hr, if_pos rfl, e_var rfl]
        rw [if_pos hr] at hq
        exact fin r hq
      · rw [decide_eq_false hr, if_neg Bool.false_ne_true, e_op, e_var rfl, e_c, e_ixAL hi h0]
        rw [if_neg hr] at hq
        exact fin a hq
/-! ### shown_by -/
theorem valI {α : Type} {k : α → List Int} {v : α → DL.W} {c : List Int} : ∀ xs : List α, valN (xs.map fun x => (intsT (k x), v x)) (intsT c) = (xs.find? fun x => decide (k x = c)).map v
  | [] => rfl
  | x :: xs => by
    have ih := valI (k := k) (v := v) (c := c) xs
    unfold valN at ih ⊢
    rw [List.map_cons, List.find?_cons, List.find?_cons]
    by_cases h : k x = c
    · have h2 : nkW (intsT (k x)) = nkW (intsT c) := nkW_intsT.mpr h
      rw [decide_eq_true h, decide_eq_true h2]
      rfl
    · have h2 : ¬ nkW (intsT (k x)) = nkW (intsT c) := fun e => h (nkW_intsT.mp e)
      rw [decide_eq_false h, decide_eq_false h2]
      exact ih
def Shown (P : Program) (w : World) (S : Sto) (p : Nat) (f : List Int → List (List Int)) : Prop := ∃ z kvs, S[p]? = some (.nd P w z kvs) ∧ ∀ call, (valN kvs (intsT call) = none ∧ f call = []) ∨ ∃ j, valN kvs (intsT call) = some (.ref j) ∧ S[j]? = some (.lst ((f call).map intsT))
def F_shown (P : Program) (w : World) : DSpec := fun ws S Q => ∃ ts x1 ds x3 x4 rows ps d, ws = [houseW ts x1 ds x3 x4, storeW rows, .tup (ps.map pickW), .str d.name] ∧ OkHouse ts ds ∧ OkStore ts rows ∧ OkPicks ps ∧ ps.length ≤ 90000 ∧ d ∈ ds ∧
  ∀ (G : Sto) (p : Nat), Closed (S ++ G) → Shown P w (S ++ G) p (due rows ps d) → Q (.ref p) (S ++ G)
theorem meets_nil {rows : List Row} {d : Door} {call : List Int} (h : ∀ r ∈ rowsOf rows d.table, told d.cols r ≠ call) : meets rows d call = [] := List.filter_eq_nil_iff.mpr fun r hr => by
  rw [decide_eq_true_eq]
  exact h r hr
theorem due_nil {rows : List Row} {ps : List Pick} {d : Door} {call : List Int} (h : meets rows d call = []) : due rows ps d call = [] := by
  unfold due
  rw [if_pos (.inr h), h]
theorem vc_shown : ∀ ws S Q, Closed S → F_shown P w ws S Q → d_shown_by P w F_door_of (F_matched P w) F_picked (endsW S.length Q) (startW N_shown_by.length ws) S := by
  rintro ws S Q cl ⟨ts, x1, ds, x3, x4, rows, ps, d, rfl, okH, okS, okP, pl, hdm, q⟩
  show d_shown_by P w F_door_of (F_matched P w) F_picked _ [some (houseW ts x1 ds x3 x4), some (storeW rows), some (.tup (ps.map pickW)), some (.str d.name), none, none, none, none, none, none, none] _
  unfold d_shown_by
  have okT := okH.tabs
  have okD := okH.ok d hdm
  refine seqI (fun e s => e = [some (houseW ts x1 ds x3 x4), some (storeW rows), some (.tup (ps.map pickW)), some (.str d.name), some (doorW d), none, none, none, none, none, none] ∧ s = S) (fun N hN => ?_) ?_
  · walk_at "dl"
    exact ⟨_, _, _, _, _, ds, d, rfl, okH.nd, hdm, okD.len, hN _ _ ⟨rfl, rfl⟩⟩
  rintro e s ⟨rfl, rfl⟩
  refine seqI (fun e s' => ∃ (G : Sto) (p : Nat) (es : List (List Int × Nat)), Closed (s ++ G) ∧ s.length ≤ p ∧ (∀ e ∈ es, s.length ≤ e.2) ∧ Grp P w (s ++ G) p none d.cols (rowsOf rows d.table) es ∧ e = [some (houseW ts x1 ds x3 x4), some (storeW rows), some (.tup (ps.map pickW)), some (.str d.name), some (doorW d), some (.ref p), none, none, none, none, none] ∧ s' = s ++ G) (fun N hN => ?_) ?_
  · walk_at "dl"
    exact ⟨ts, rows, d, rfl, okT, okS, okD, fun G p es h1 h2 h3 h4 => hN _ _ ⟨G, p, es, h1, h2, h3, h4, rfl, rfl⟩⟩
  rintro e s' ⟨G, p, es, clG, hp, hfar, gr, rfl, rfl⟩
  have mem1 : ∀ e ∈ es, (rowsOf rows d.table).filter (fun r => decide (told d.cols r = e.1)) = meets rows d e.1 := fun _ _ => rfl
  have miss : ∀ call, call ∉ es.map (·.1) → due rows ps d call = [] := fun call h => due_nil (meets_nil fun r hr e => h ((gr.mem call).mpr ⟨r, hr, e⟩))
  have hel : es.length ≤ 300 := Nat.le_trans gr.len (Nat.le_trans rowsOf_len okS.len)
  refine seqI (fun e s' => d.one = true ∧ e = [some (houseW ts x1 ds x3 x4), some (storeW rows), some (.tup (ps.map pickW)), some (.str d.name), some (doorW d), some (.ref p), none, none, none, none, none] ∧ s' = s ++ G) (fun N hN => ?_) ?_
  · walk_at "dl"
    split
    · rename_i ha
      have hone := kind_all.mp ha
      refine Ends0.keep (by simp) clG (decide_eq_true (List.getElem?_eq_some_iff.mp gr.dict).1) (q G p clG ⟨_, _, gr.dict, fun call => ?_⟩)
      by_cases hk : call ∈ es.map (·.1)
      · obtain ⟨e, he, rfl⟩ := List.mem_map.mp hk
        refine .inr ⟨e.2, valG_at gr.nd he, ?_⟩
        have z : due rows ps d e.1 = meets rows d e.1 := by
          unfold due
          rw [if_pos (.inl hone)]
        rw [z]
        exact gr.lst e he
      · exact .inl ⟨valG_none hk, miss call hk⟩
    · rename_i ha
      refine hN _ _ ⟨?_, rfl, rfl⟩
      cases hb : d.one with
      | true => rfl
      | false => exact absurd (kind_all.mpr hb) ha
  rintro e s' ⟨hone, rfl, rfl⟩
  let kvQ : Pick → DL.W × DL.W := fun p => (intsT p.2.1, intsT p.2.2)
  refine seqI (fun e s' => e = [some (houseW ts x1 ds x3 x4), some (storeW rows), some (.tup (ps.map pickW)), some (.str d.name), some (doorW d), some (.ref p), some (.ref (s ++ G).length), none, none, none, none] ∧ s' = s ++ G ++ [.nd P w none ((ps.filter fun p => decide (p.1 = d.name)).map fun p => (intsT p.2.1, intsT p.2.2))]) (fun N hN => ?_) ?_
  · walk_at "dl"
    refine dictWN_inv (fun k acc S' => S' = s ++ G ∧ acc = ((ps.take k).filter fun p => decide (p.1 = d.name)).map fun p => (intsT p.2.1, intsT p.2.2)) ⟨rfl, rfl⟩ ?_ ?_
    · rintro k x acc S' hx ⟨rfl, rfl⟩ N2 hN2
      obtain ⟨p, hpk, rfl, hpm, hk⟩ := map_get hx
      refine ⟨trivial, ?_⟩
      walk_at "dl"
      split
      · rename_i hpn
        refine ⟨hkW_ints _, ?_, hN2 _ _ ⟨rfl, ?_⟩⟩
        · refine lt_sz ?_
          have := List.length_filter_le (fun p : Pick => decide (p.1 = d.name)) (ps.take k)
          rw [List.length_take] at this
          omega
        · have hnew : valN (((ps.take k).filter fun p => decide (p.1 = d.name)).map fun p => (intsT p.2.1, intsT p.2.2)) (intsT p.2.1) = none := by
            rw [valI (k := fun p : Pick => p.2.1) (v := fun p : Pick => intsT p.2.2), Option.map_eq_none_iff, List.find?_eq_none]
            intro x hx hxe
            obtain ⟨hx1, hx2⟩ := List.mem_filter.mp hx
            have nd := okP.nd
            obtain ⟨hl, hp2⟩ := List.getElem?_eq_some_iff.mp hpk
            rw [← List.take_append_drop k ps, List.map_append, List.drop_eq_getElem_cons hl, hp2, List.map_cons] at nd
            refine (List.nodup_append.mp nd).2.2 (x.1, x.2.1) (List.mem_map_of_mem (f := fun p : Pick => (p.1, p.2.1)) hx1) (p.1, p.2.1) (by simp) ?_
            rw [of_decide_eq_true hx2, of_decide_eq_true hxe, hpn]
          unfold putN
          rw [hnew, if_neg (by simp), take_snoc hpk, List.filter_append, List.map_append]
          simp [hpn]
      · rename_i hpn
        refine hN2 _ _ ⟨rfl, ?_⟩
        rw [take_snoc hpk, List.filter_append, List.map_append]
        simp [hpn]
    · rintro acc S' ⟨rfl, rfl⟩
      rw [List.length_map, List.take_length]
      refine ⟨trivial, ?_⟩
      walk_at "dl"
      exact hN _ _ ⟨by rw [List.length_append], by rw [List.append_assoc]⟩
  rintro e s' ⟨rfl, rfl⟩
  have hgl : p < (s ++ G).length := (List.getElem?_eq_some_iff.mp gr.dict).1
  have clD : Closed (s ++ G ++ [.nd P w none ((ps.filter fun p => decide (p.1 = d.name)).map fun p => (intsT p.2.1, intsT p.2.2))]) := by
    refine closed_snoc clG ?_
    refine pureL_bnd _ _ (pureL_of fun w hw => ?_)
    rw [List.map_map] at hw
    obtain ⟨p, _, rfl⟩ := List.mem_map.mp hw
    exact pureL_ints _
  have gr2 := gr.app [.nd P w none ((ps.filter fun p => decide (p.1 = d.name)).map fun p => (intsT p.2.1, intsT p.2.2))]
  have hP0 : (s ++ G ++ [O.nd P w none ((ps.filter fun p => decide (p.1 = d.name)).map fun p => (intsT p.2.1, intsT p.2.2))])[(s ++ G).length]? = some (.nd P w none ((ps.filter fun p => decide (p.1 = d.name)).map fun p => (intsT p.2.1, intsT p.2.2))) := newA
  generalize hS2 : (s ++ G ++ [O.nd P w none ((ps.filter fun p => decide (p.1 = d.name)).map fun p => (intsT p.2.1, intsT p.2.2))]) = S2 at clD gr2 hP0 ⊢
  have hS2b : ∃ G2, S2 = s ++ G2 := ⟨_, by rw [← hS2, List.append_assoc]⟩
  generalize hpp : (s ++ G).length = pp at hP0 hgl ⊢
  rw [e_ret, e_dictCN, e_lockN, e_var rfl]
  refine ⟨p, none, es.map kvG, rfl, gr2.dict, fun o => ?_⟩
  rw [List.map_map]
  have gr3 := gr2.lock o
  have clE : Closed (S2.set p (.nd P w (some o) (es.map kvG))) := closed_put clD (kvG_bnd fun e he => (List.getElem?_eq_some_iff.mp (gr2.lst e he)).1)
  have hP3 : (S2.set p (.nd P w (some o) (es.map kvG)))[pp]? = some (.nd P w none ((ps.filter fun p => decide (p.1 = d.name)).map fun p => (intsT p.2.1, intsT p.2.2))) := by
    rw [List.getElem?_set_ne (Nat.ne_of_lt hgl)]
    exact hP0
  have hS3b : ∃ G3, S2.set p (.nd P w (some o) (es.map kvG)) = s ++ G3 := by
    obtain ⟨G2, rfl⟩ := hS2b
    exact ⟨_, set_far hp⟩
  generalize S2.set p (.nd P w (some o) (es.map kvG)) = S3 at gr3 clE hP3 hS3b ⊢
  obtain ⟨G3, rfl⟩ := hS3b
  clear gr2 hP0 clD hS2b hS2 gr
  refine dictWN_inv (fun k acc S' => ∃ (G4 : Sto) (fs : List (List Int × Nat)), S' = s ++ G3 ++ G4 ∧ Closed S' ∧ acc = fs.map kvG ∧ fs.map (·.1) = (es.take k).map (·.1) ∧ ∀ f ∈ fs, S'[f.2]? = some (.lst ((due rows ps d f.1).map intsT))) ⟨[], [], by rw [List.append_nil], clE, rfl, rfl, by simp⟩ ?_ ?_
  · rintro k x acc S' hx ⟨G4, fs, rfl, cl4, rfl, hfs, hl4⟩ N hN
    obtain ⟨e, hek, rfl, hem, hk⟩ := map_get hx
    have hfl : fs.length = k := by
      have z := congrArg List.length hfs
      rw [List.length_map, List.length_map, List.length_take] at z
      omega
    refine ⟨trivial, ?_⟩
    have ek : (pairN ∘ kvG) e = .tup [intsT e.1, .ref e.2] := rfl
    rw [ek]
    have gr4 := gr3.app G4
    have hlst := gr4.lst e hem
    obtain ⟨a, l, hml⟩ : ∃ a l, meets rows d e.1 = a :: l := by
      cases hm : meets rows d e.1 with
      | nil => exact absurd hm (gr3.ne_nil hem)
      | cons a l => exact ⟨a, l, rfl⟩
    have hlst2 : (s ++ G3 ++ G4)[e.2]? = some (.lst ((a :: l).map intsT)) := by
      rw [← hml]
      exact hlst
    walk_at "dl"
    rw [List.append_assoc] at hlst2 hl4 cl4
    have hP4 : (s ++ (G3 ++ G4))[pp]? = some (.nd P w none ((ps.filter fun p => decide (p.1 = d.name)).map fun p => (intsT p.2.1, intsT p.2.2))) := by
      rw [← List.append_assoc]
      exact get_old hP3
    refine ⟨⟨_, _, hP4⟩, _, _, hP4, hkW_ints _, ?_⟩
    have hget : ((valN ((ps.filter fun p => decide (p.1 = d.name)).map fun p => (intsT p.2.1, intsT p.2.2)) (intsT e.1)).getD .non) = optW ((ps.find? fun p => decide (p.1 = d.name ∧ p.2.1 = e.1)).map (·.2.2)) := by
      rw [valI (k := fun p : Pick => p.2.1) (v := fun p : Pick => intsT p.2.2), List.find?_filter]
      have eq1 : (fun a : Pick => decide (decide (a.1 = d.name) = true ∧ decide (a.2.1 = e.1) = true)) = fun p : Pick => decide (p.1 = d.name ∧ p.2.1 = e.1) := by
        funext a
        simp
      first
        | rw [eq1]
        | (have eq2 : (fun a : Pick => decide (a.1 = d.name) && decide (a.2.1 = e.1)) = fun p : Pick => decide (p.1 = d.name ∧ p.2.1 = e.1) := by
            funext a
            simp
           rw [eq2])
      cases ps.find? (fun p => decide (p.1 = d.name ∧ p.2.1 = e.1)) with
      | none => rfl
      | some p => rfl
    rw [hget]
    refine ⟨e.2, a, l, _, rfl, hlst2, ?_⟩
    have hdue : due rows ps d e.1 = [pickR a l ((ps.find? fun p => decide (p.1 = d.name ∧ p.2.1 = e.1)).map (·.2.2))] := due_one okP hone hml
    have hnew : e.1 ∉ fs.map (·.1) := by
      rw [hfs]
      intro hm
      have nd := gr3.nd
      obtain ⟨hl, hp2⟩ := List.getElem?_eq_some_iff.mp hek
      rw [← List.take_append_drop k es, List.map_append, List.drop_eq_getElem_cons hl, hp2, List.map_cons] at nd
      exact (List.nodup_append.mp nd).2.2 e.1 hm e.1 (by simp) rfl
    refine ⟨hkW_ints _, lt_sz (by omega), ?_⟩
    rw [putG_new hnew]
    refine hN _ _ ⟨G4 ++ [.lst [intsT (pickR a l ((ps.find? fun p => decide (p.1 = d.name ∧ p.2.1 = e.1)).map (·.2.2)))]], fs ++ [(e.1, (s ++ (G3 ++ G4)).length)], ?_, closed_snoc cl4 (ints_bnd [_] _), rfl, ?_, fun f hf => ?_⟩
    · simp
    · rw [List.map_append, hfs, take_snoc hek, List.map_append]
      rfl
    · rcases List.mem_append.mp hf with h | h
      · exact get_old (hl4 f h)
      · rw [List.mem_singleton.mp h]
        show _ = some (O.lst ((due rows ps d e.1).map intsT))
        rw [hdue]
        exact newA
  · rintro acc S' ⟨G4, fs, rfl, cl4, rfl, hfs, hl4⟩
    rw [List.length_map, List.take_length] at hfs
    refine ⟨trivial, ?_⟩
    have nd2 : (fs.map (·.1)).Nodup := by rw [hfs]; exact gr3.nd
    have c5 : Closed (s ++ G3 ++ G4 ++ [.nd P w none (fs.map kvG)]) := closed_snoc cl4 (kvG_bnd fun f hf => Nat.lt_succ_of_lt (List.getElem?_eq_some_iff.mp (hl4 f hf)).1)
    have sh : Shown P w (s ++ G3 ++ G4 ++ [.nd P w none (fs.map kvG)]) (s ++ G3 ++ G4).length (due rows ps d) := by
      refine ⟨_, _, newA, fun call => ?_⟩
      by_cases hk : call ∈ fs.map (·.1)
      · obtain ⟨f, hf, rfl⟩ := List.mem_map.mp hk
        exact .inr ⟨f.2, valG_at nd2 hf, get_old (hl4 f hf)⟩
      · exact .inl ⟨valG_none hk, miss call (hfs ▸ hk)⟩
    refine Ends0.keep (by simp) c5 (decide_eq_true (by simp)) ?_
    rw [show s ++ G3 ++ G4 ++ [O.nd P w none (fs.map kvG)] = s ++ (G3 ++ G4 ++ [O.nd P w none (fs.map kvG)]) by simp] at c5 sh ⊢
    exact q _ _ c5 sh

/-! ### shows -/
def F_shows (P : Program) (w : World) : DSpec := fun ws S Q => ∃ ts x1 ds x3 x4 rows ps d call, ws = [houseW ts x1 ds x3 x4, storeW rows, .tup (ps.map pickW), .str d.name, intsT call] ∧ OkHouse ts ds ∧ OkStore ts rows ∧ OkPicks ps ∧ ps.length ≤ 90000 ∧ d ∈ ds ∧
  Q (.tup ((due rows ps d call).map intsT)) S
theorem vc_shows : ∀ ws S Q, Closed S → F_shows P w ws S Q → d_shows P w (F_shown P w) (endsW S.length Q) (startW N_shows.length ws) S := by
  rintro ws S Q cl ⟨ts, x1, ds, x3, x4, rows, ps, d, call, rfl, okH, okS, okP, pl, hdm, q⟩
  show d_shows P w (F_shown P w) _ [some (houseW ts x1 ds x3 x4), some (storeW rows), some (.tup (ps.map pickW)), some (.str d.name), some (intsT call)] _
  unfold d_shows
  walk_at "dl"
  refine ⟨ts, x1, ds, x3, x4, rows, ps, d, rfl, okH, okS, okP, pl, hdm, fun G p clG ⟨z, kvs, hd, sh⟩ => ?_⟩
  refine ⟨_, rfl, ⟨z, kvs, hd⟩, z, kvs, get_old hd, hkW_ints _, ?_⟩
  rcases sh call with ⟨h1, h2⟩ | ⟨j, h1, h2⟩
  · rw [h2] at q
    rw [h1]
    show vTuple [.ref (S ++ G).length] _ _
    rw [e_tupleL newA, List.append_assoc]
    exact end_drop cl rfl q
  · rw [h1]
    show vTuple [.ref j] _ _
    rw [e_tupleL (get_old h2), List.append_assoc]
    exact end_drop cl (pureL_intsT _) q

end K25

namespace K25
open PySem PySem.Spec PyProof.Rows L2 TL DL
local macro_rules | `(tactic| walk_at "dl") => `(tactic| try simp (config := { decide := false }) only [e_seq, e_asg, e_nm, e_op, e_un, e_cb, e_c, e_var, e_ifs, e_tru, e_B, e_drop, e_bm, e_bm0, e_ret, e_retN, e_next, e_break, e_cont, e_nil, e_cons, e_tup, e_lst, e_sl, e_onone, e_osome, e_gsub, e_call, e_callk, e_and, e_or, e_not, e_andv, e_orv, e_notv, e_notU, e_isI, e_isS, e_isT, e_isR, e_isN, e_if, e_par, e_for, e_comp, e_iseq, e_rng1, e_rng3, e_zip, e_dictC, e_sc2, e_iseqF, e_yes, e_dictN, src_cells, src_great, src_rest, src_count, src_putR, src_putC, src_len, sz4l, e_nget1, e_nget2, e_lockN, e_dictCN, e_disp, e_ap0, e_ap1, e_gtp, e_gc, e_gn0,
  e_addI, e_addS, e_addT, e_addL, e_i20, e_i2, e_neg, e_cmpI, e_cmpS, e_eqI, e_eqS, e_eqB, e_ixT, e_ixLit, e_ixL, e_ixS, e_set, e_ixAT, e_ixALit, e_ixAL, e_ixAS, e_ixAD, e_setAL, e_setAD, e_dict0, e_inAL, e_inAT, e_inAD, e_inAS, e_listAT, e_listALit, e_listAL, e_listAD, e_max2, e_extend, e_isalpha, e_enum, keyW, sz0, sz1, sz2, sz3, sz4, sz5, sz6, O.dk.injEq, e_slT, e_slLit, e_slS, e_slL, e_lenAS, e_lenAT, e_lenALit, e_lenAL, e_lenAD, e_lenS, e_lenT, e_lenLit, e_lenL, e_i1, e_intI, e_intB, e_strI, e_strS, e_listT, e_listLit, e_listL, e_tupleT, e_tupleL, e_append, e_pop0, e_tyL, e_tyS, e_truL, e_truT, e_truB, e_truI, e_truS, e_truN, e_seqT, e_seqLit, e_seqL, e_in, e_inT, e_isi, kit_ll, kit_ss, kit_tt, kit_ii, kit_ib, tyW_L, tyW_S, tyW_T, tyW_I, tyW_B, cut_to1, cut_to2, cut_from1, wipeW_nil, wipeW_cons, Nat.reduceAdd, eq_self, List.map_cons, List.map_nil,
  atI_0, atI_1, atI_2, atI_3, atI_4, atI_5, atI_end, ixN_0, ixN_1, ixN_11, ixN_last, List.map_append, List.map_cons, List.map_nil, get_app, get_app0, set_app, set_app0, List.cons_append, List.nil_append, List.append_assoc, List.length_append, List.length_cons, List.length_nil, Nat.zero_add, List.length_map, List.length_set,
  List.getElem?_cons_zero, List.getElem?_cons_succ, List.set_cons_zero, List.set_cons_succ, Option.some.injEq, exists_eq_left', exists_eq_left, exists_and_left, W.int.injEq, W.bl.injEq, W.str.injEq, W.tup.injEq, W.ref.injEq, O.lst.injEq, List.cons.injEq, reduceCtorEq, false_and, exists_false, or_false, false_or, true_and, and_true, decide_eq_true_eq, Bool.false_xor, Bool.true_xor, Bool.not_eq_true', decide_eq_false_iff_not, List.isEmpty_cons, List.isEmpty_nil, Bool.not_true, Bool.not_false, if_true, if_false, not_true_eq_false, not_false_eq_true, ne_eq, Bool.false_eq_true, reduceIte])


variable {P : Program} {w : World}
/-! ### picks by number -/
def atN (n : Int) (m : List (List Int)) : List Int := m.getD (n % (m.length : Int)).toNat []
def byP (rows : List Row) (n : Int) (d : Door) (k : List Int) : Pick := (d.name, k, atN n (meets rows d k))
structure ByM (rows : List Row) (ds : List Door) (n : Int) (L : List Pick) : Prop where
  nd : (L.map fun p => (p.1, p.2.1)).Nodup
  mem : ∀ p, p ∈ L ↔ ∃ d ∈ ds, d.one = true ∧ ∃ r ∈ rowsOf rows d.table, p = byP rows n d (told d.cols r)
  len : L.length ≤ 300 * ds.length
structure ByOk (rows : List Row) (ds : List Door) (n : Int) (L : List Pick) : Prop extends ByM rows ds n L where
  asc : (L.map pickW).Pairwise fun a b => leW a b = true
theorem byM_nil {rows : List Row} {n : Int} : ByM rows [] n [] := ⟨by simp, by simp, by simp⟩
theorem ByM.skip {rows : List Row} {ds : List Door} {n : Int} {L : List Pick} (h : ByM rows ds n L) {d : Door} (hd : d.one = false) : ByM rows (ds ++ [d]) n L := by
  refine ⟨h.nd, fun p => ?_, by have := h.len; rw [List.length_append]; simp; omega⟩
  rw [h.mem]
  constructor
  · rintro ⟨e, he, q⟩
    exact ⟨e, List.mem_append_left _ he, q⟩
  · rintro ⟨e, he, h1, q⟩
    rcases List.mem_append.mp he with he | he
    · exact ⟨e, he, h1, q⟩
    · rw [List.mem_singleton.mp he, hd] at h1
      cases h1
theorem ByM.names {rows : List Row} {ds : List Door} {n : Int} {L : List Pick} (h : ByM rows ds n L) {p : Pick} (hp : p ∈ L) : ∃ d ∈ ds, p.1 = d.name := by
  obtain ⟨d, hd, _, r, _, rfl⟩ := (h.mem p).mp hp
  exact ⟨d, hd, rfl⟩
theorem ByM.step {rows : List Row} {ds : List Door} {n : Int} {L : List Pick} (h : ByM rows ds n L) {d : Door} (hd : d.one = true) (hn : d.name ∉ ds.map (·.name)) {ks : List (List Int)} (kn : ks.Nodup) (km : ∀ k, k ∈ ks ↔ ∃ r ∈ rowsOf rows d.table, told d.cols r = k) (kl : ks.length ≤ 300) : ByM rows (ds ++ [d]) n (L ++ ks.map (byP rows n d)) := by
  refine ⟨?_, fun p => ?_, by have := h.len; rw [List.length_append, List.length_append, List.length_map]; simp; omega⟩
  · rw [List.map_append]
    refine List.nodup_append.mpr ⟨h.nd, ?_, fun a ha b hb e => ?_⟩
    · rw [List.map_map]
      exact List.pairwise_map.mpr (List.Pairwise.imp (fun {a b} hab e => hab (by injection e)) kn)
    · obtain ⟨p, hp, rfl⟩ := List.mem_map.mp ha
      rw [List.map_map] at hb
      obtain ⟨k, _, rfl⟩ := List.mem_map.mp hb
      obtain ⟨u, hu, e2⟩ := h.names hp
      have e3 : p.1 = d.name := by injection e
      exact hn (List.mem_map.mpr ⟨u, hu, by rw [← e2, e3]⟩)
  · rw [List.mem_append, h.mem]
    constructor
    · rintro (⟨e, he, q⟩ | hp)
      · exact ⟨e, List.mem_append_left _ he, q⟩
      · obtain ⟨k, hk, rfl⟩ := List.mem_map.mp hp
        obtain ⟨r, hr, rfl⟩ := (km k).mp hk
        exact ⟨d, by simp, hd, r, hr, rfl⟩
    · rintro ⟨e, he, h1, r, hr, rfl⟩
      rcases List.mem_append.mp he with he | he
      · exact .inl ⟨e, he, h1, r, hr, rfl⟩
      · rw [List.mem_singleton.mp he] at hr ⊢
        exact .inr (List.mem_map.mpr ⟨_, (km _).mpr ⟨r, hr, rfl⟩, rfl⟩)
theorem by_uniq {rows : List Row} {ds : List Door} {n : Int} {L M : List Pick} (h : ByOk rows ds n L) (h' : ByOk rows ds n M) (ok : ∀ d ∈ ds, PyData.strOk d.name = true) : L = M := by
  have hp : L.Perm M := by
    have nodupL : L.Nodup := (List.pairwise_map.mp h.nd).imp fun hab e => hab (by rw [e])
    have nodupM : M.Nodup := (List.pairwise_map.mp h'.nd).imp fun hab e => hab (by rw [e])
    refine (List.perm_ext_iff_of_nodup nodupL nodupM).mpr fun p => ?_
    rw [h.mem, h'.mem]
  have e : L.map pickW = M.map pickW := asc_uniq (k := pickKd) (fun w hw => by
      obtain ⟨p, hp, rfl⟩ := List.mem_map.mp hw
      obtain ⟨d, hd, e⟩ := h.names hp
      exact pick_std (by rw [e]; exact ok d hd)) (fun w hw => by
      obtain ⟨p, _, rfl⟩ := List.mem_map.mp hw
      exact pick_isK p) (hp.map _) h.asc h'.asc
  refine (List.map_inj_right (f := pickW) fun p q h => ?_).mp e
  have h1 : [W.str p.1, intsT p.2.1, intsT p.2.2] = [W.str q.1, intsT q.2.1, intsT q.2.2] := by injection h
  obtain ⟨a, b⟩ := List.cons.inj h1
  obtain ⟨c, f⟩ := List.cons.inj b
  exact Prod.ext (by injection a) (Prod.ext (intsT_inj.mp c) (intsT_inj.mp (List.cons.inj f).1))
theorem ByOk.skip {rows : List Row} {ds : List Door} {n : Int} {L : List Pick} (h : ByOk rows ds n L) {d : Door} (hd : d.one = false) : ByOk rows (ds ++ [d]) n L := ⟨h.toByM.skip hd, h.asc⟩
theorem ByOk.step {rows : List Row} {ds : List Door} {n : Int} {L : List Pick} (h : ByOk rows ds n L) {d : Door} (hd : d.one = true) (hn : d.name ∉ ds.map (·.name)) {ks : List (List Int)} (kn : ks.Nodup) (km : ∀ k, k ∈ ks ↔ ∃ r ∈ rowsOf rows d.table, told d.cols r = k) (kl : ks.length ≤ 300)
    (ka : (ks.map intsT).Pairwise fun a b => leW a b = true) (lo : ∀ e ∈ ds, leW (.str e.name) (.str d.name) = true) (so : ∀ e ∈ ds ++ [d], PyData.strOk e.name = true) : ByOk rows (ds ++ [d]) n (L ++ ks.map (byP rows n d)) := by
  refine ⟨h.toByM.step hd hn kn km kl, ?_⟩
  rw [List.map_append, List.pairwise_append]
  refine ⟨h.asc, ?_, fun a ha b hb => ?_⟩
  · rw [List.map_map, List.pairwise_map]
    have z := (List.pairwise_map.mp ka).and kn
    refine z.imp fun {a b} hab => ?_
    show leW (.tup (W.str d.name :: [intsT a, _])) (.tup (W.str d.name :: [intsT b, _])) = true
    rw [leW_tail (k := .s) (show (W.str d.name).std = true from so d (by simp)) ⟨_, rfl⟩, leW_head (k := .seq .i) (std_ints _) (std_ints _) (isK_ints _) (isK_ints _) (fun e => hab.2 (intsT_inj.mp e))]
    exact hab.1
  · obtain ⟨p, hp, rfl⟩ := List.mem_map.mp ha
    rw [List.map_map] at hb
    obtain ⟨k, _, rfl⟩ := List.mem_map.mp hb
    obtain ⟨u, hu, e2⟩ := h.names hp
    have hne : W.str p.1 ≠ W.str d.name := fun e => hn (List.mem_map.mpr ⟨u, hu, by rw [← e2]; injection e⟩)
    show leW (.tup (W.str p.1 :: _)) (.tup (W.str d.name :: _)) = true
    rw [leW_head (k := .s) (show (W.str p.1).std = true by rw [e2]; exact so u (List.mem_append_left _ hu)) (show (W.str d.name).std = true from so d (by simp)) ⟨_, rfl⟩ ⟨_, rfl⟩ hne, e2]
    exact lo u hu
theorem doors_lo {ds : List Door} (asc : (ds.map doorW).Pairwise fun a b => leW a b = true) (so : ∀ e ∈ ds, PyData.strOk e.name = true) {pre post : List Door} {d : Door} (e : ds = pre ++ d :: post) : ∀ u ∈ pre, leW (.str u.name) (.str d.name) = true := by
  intro u hu
  have h := List.pairwise_map.mp asc
  rw [e, List.pairwise_append] at h
  have z := h.2.2 u hu d (List.mem_cons_self ..)
  have su : (W.str u.name).std = true := so u (by rw [e]; exact List.mem_append_left _ hu)
  have sd : (W.str d.name).std = true := so d (by rw [e]; simp)
  exact leW_fst (k := .s) (x := .str u.name) (y := .str d.name) su sd ⟨_, rfl⟩ ⟨_, rfl⟩ z
theorem names_new {ds : List Door} (nd : (ds.map (·.name)).Nodup) {pre post : List Door} {d : Door} (e : ds = pre ++ d :: post) : d.name ∉ pre.map (·.name) := fun h => by
  rw [e, List.map_append, List.map_cons] at nd
  exact (List.nodup_append.mp nd).2.2 _ h _ (List.mem_cons_self ..) rfl
theorem at_mod {m : List (List Int)} (h : m ≠ []) (n : Int) : (0 : Int) < m.length ∧ atI (m.map intsT) (n % (m.length : Int)) = some (intsT (atN n m)) := by
  have h0 : 0 < m.length := List.length_pos_iff.mpr h
  have a0 := Int.emod_nonneg n (b := (m.length : Int)) (by omega)
  have a1 := Int.emod_lt_of_pos n (b := (m.length : Int)) (by omega)
  obtain ⟨x, _, h1, h2⟩ := at_map (f := intsT) a0 a1
  refine ⟨by omega, ?_⟩
  rw [h2]
  unfold atN
  rw [List.getD_eq_getElem?_getD, h1]
  rfl
theorem picks_sorted {L : List Pick} (so : ∀ p ∈ L, PyData.strOk p.1 = true) {S : Sto} {Q : WK} {i : Nat} (hi : S[i]? = some (.lst (L.map pickW))) (q : ∀ M : List Pick, M.Perm L → (M.map pickW).Pairwise (fun a b => leW a b = true) → Q (.ref S.length) (S ++ [.lst (M.map pickW)])) : vSortE [.ref i] S Q := by
  refine .inl (sorted_std (k := pickKd) hi (fun w hw => by obtain ⟨p, hp, rfl⟩ := List.mem_map.mp hw; exact pick_std (so p hp)) (fun w hw => by obtain ⟨p, hp, rfl⟩ := List.mem_map.mp hw; exact pick_isK p) (.inl fun w hw => by obtain ⟨p, hp, rfl⟩ := List.mem_map.mp hw; exact ⟨_, _, rfl⟩) ?_)
  obtain ⟨es, he, hes⟩ := perm_map_inv (List.mergeSort_perm (L.map pickW) leW) L rfl
  have hasc := sort_asc (L.map pickW)
  rw [he] at hasc ⊢
  exact q es hes hasc
theorem ByM.sort {rows : List Row} {ds : List Door} {n : Int} {L M : List Pick} (h : ByM rows ds n L) (p : M.Perm L) (a : (M.map pickW).Pairwise fun a b => leW a b = true) : ByOk rows ds n M :=
  ⟨⟨(p.map _).nodup_iff.mpr h.nd, fun x => (p.mem_iff).trans (h.mem x), by rw [p.length_eq]; exact h.len⟩, a⟩
/-! ### picks_by -/
def F_picks_by (P : Program) (w : World) : DSpec := fun ws S Q => ∃ ts x1 ds x3 x4 rows n, ws = [houseW ts x1 ds x3 x4, storeW rows, .int n] ∧ OkHouse ts ds ∧ OkStore ts rows ∧ ∀ L, ByOk rows ds n L → Q (.tup (L.map pickW)) S
theorem vc_picks_by : ∀ ws S Q, Closed S → F_picks_by P w ws S Q → d_picks_by P w (F_matched P w) (endsW S.length Q) (startW N_picks_by.length ws) S := by
  rintro ws S Q cl ⟨ts, x1, ds, x3, x4, rows, n, rfl, okH, okS, q⟩
  show d_picks_by P w (F_matched P w) _ [some (houseW ts x1 ds x3 x4), some (storeW rows), some (.int n), none, none, none, none] _
  unfold d_picks_by
  have okT := okH.tabs
  have so : ∀ e ∈ ds, PyData.strOk e.name = true := fun e he => (okH.ok e he).name
  have d8 := okH.d8
  walk_at "dl"
  refine forM (fun pre e s => ∃ (L : List Pick) (G : Sto) (x4' x5 x6 : Option DL.W), ByM rows pre n L ∧ e = [some (houseW ts x1 ds x3 x4), some (storeW rows), some (.int n), some (.ref S.length), x4', x5, x6] ∧ s = S ++ .lst (L.map pickW) :: G) ⟨[], [], _, _, _, byM_nil, rfl, rfl⟩ ?_ ?_
  · rintro pre d post e s hpre ⟨L, G, y4, y5, y6, hL, rfl, rfl⟩ N hN
    have hdm : d ∈ ds := by rw [hpre]; simp
    have hpl : pre.length < ds.length := by rw [hpre]; simp
    have hLl := hL.len
    refine ⟨trivial, ?_⟩
    walk_at "dl"
    split
    · rename_i h1
      have hone := kind_one.mp h1
      refine ⟨ts, rows, d, rfl, okT, okS, okH.ok d hdm, fun G2 p es clG hp hfar gr => ?_⟩
      refine ⟨p, rfl, none, es.map kvG, gr.dict, fun o => ?_⟩
      have gr2 := gr.lock o
      have hel : es.length ≤ 300 := Nat.le_trans gr.len (Nat.le_trans rowsOf_len okS.len)
      have hSl : S.length < p := by rw [List.length_append, List.length_cons] at hp; omega
      have hfar2 : ∀ e ∈ es, S.length < e.2 := fun e he => by have := hfar e he; rw [List.length_append, List.length_cons] at this; omega
      obtain ⟨G3, hG3⟩ : ∃ G3, (S ++ O.lst (L.map pickW) :: G ++ G2).set p (.nd P w (some o) (es.map kvG)) = S ++ .lst (L.map pickW) :: G3 := by
        refine ⟨(G ++ G2).set (p - S.length - 1) (.nd P w (some o) (es.map kvG)), ?_⟩
        rw [List.append_assoc, set_far (by omega)]
        obtain ⟨k, hk⟩ : ∃ k, p - S.length = k + 1 := ⟨p - S.length - 1, by omega⟩
        rw [hk, List.cons_append, List.set_cons_succ]
        rfl
      rw [hG3] at gr2 ⊢
      rw [List.map_map]
      refine forM (fun pe e s => ∃ (x5 x6 : Option DL.W), e = [some (houseW ts x1 ds x3 x4), some (storeW rows), some (.int n), some (.ref S.length), some (doorW d), x5, x6] ∧ s = S ++ .lst ((L ++ pe.map fun e => byP rows n d e.1).map pickW) :: G3) ⟨_, _, rfl, by simp⟩ ?_ ?_
      · rintro pe e1 post2 e s hpe ⟨z5, z6, rfl, rfl⟩ N2 hN2
        have hem : e1 ∈ es := by rw [hpe]; simp
        have hpel : pe.length < 300 := by
          have := congrArg List.length hpe
          rw [List.length_append, List.length_cons] at this
          omega
        have hne := gr2.ne_nil hem
        have hl0 := gr2.lst e1 hem
        have hl : ∀ M : O, (S ++ M :: G3)[e1.2]? = some (.lst ((meets rows d e1.1).map intsT)) := by
          intro M
          have h2 := hfar2 e1 hem
          obtain ⟨k, hk⟩ : ∃ k, e1.2 = S.length + (k + 1) := ⟨e1.2 - S.length - 1, by omega⟩
          rw [hk, get_app, List.getElem?_cons_succ] at hl0 ⊢
          exact hl0
        obtain ⟨m0, m1⟩ := at_mod (m := meets rows d e1.1) hne n
        refine ⟨trivial, ?_⟩
        rw [show (pairN ∘ kvG) e1 = .tup [intsT e1.1, .ref e1.2] from rfl]
        have eM : (L ++ (pe ++ [e1]).map fun e => byP rows n d e.1) = (L ++ pe.map fun e => byP rows n d e.1) ++ [byP rows n d e1.1] := by rw [List.map_append, ← List.append_assoc]; rfl
        have hMl : (L ++ pe.map fun e => byP rows n d e.1).length ≤ 2700 := by
          rw [List.length_append, List.length_map]
          have := hL.len
          omega
        rw [eM] at hN2
        generalize (L ++ pe.map fun e => byP rows n d e.1) = M at hN2 hMl ⊢
        have hO : (S ++ .lst (M.map pickW) :: G3)[S.length]? = some (.lst (M.map pickW)) := get_app0
        walk_at "dl"
        rw [e_lenAL (hl _), List.length_map]
        walk_at "dl"
        refine ⟨m0, ?_⟩
        rw [e_ixAL (hl _) m1]
        walk_at "dl"
        refine ⟨lt_sz (by omega), hN2 _ _ ⟨_, _, rfl, ?_⟩⟩
        rw [List.map_append]
        rfl
      · rintro e s ⟨z5, z6, rfl, rfl⟩
        refine ⟨trivial, hN _ _ ⟨_, G3, _, _, _, ?_, rfl, rfl⟩⟩
        rw [show es.map (fun e => byP rows n d e.1) = (es.map (·.1)).map (byP rows n d) by rw [List.map_map]; rfl]
        exact hL.step hone (names_new okH.nd hpre) gr2.nd gr2.mem (by rw [List.length_map]; exact hel)
    · rename_i h1
      refine hN _ _ ⟨L, G, _, _, _, hL.skip ?_, rfl, rfl⟩
      cases hb : d.one with
      | false => rfl
      | true => exact absurd (kind_one.mpr hb) h1
  · rintro e s ⟨L, G, y4, y5, y6, hL, rfl, rfl⟩
    refine ⟨trivial, ?_⟩
    walk_at "dl"
    refine picks_sorted (fun p hp => by obtain ⟨d, hd, e⟩ := hL.names hp; rw [e]; exact so d hd) get_app0 fun M hM hasc => ?_
    rw [e_tupleL newA, List.append_assoc]
    exact end_drop cl (pureL_picks M) (q M (hL.sort hM hasc))

end K25

namespace K25
open PySem PySem.Spec PyProof.Rows L2 TL DL
local macro_rules | `(tactic| walk_at "dl") => `(tactic| try simp (config := { decide := false }) only [e_seq, e_asg, e_nm, e_op, e_un, e_cb, e_c, e_var, e_ifs, e_tru, e_B, e_drop, e_bm, e_bm0, e_ret, e_retN, e_next, e_break, e_cont, e_nil, e_cons, e_tup, e_lst, e_sl, e_onone, e_osome, e_gsub, e_call, e_callk, e_and, e_or, e_not, e_andv, e_orv, e_notv, e_notU, e_isI, e_isS, e_isT, e_isR, e_isN, e_if, e_par, e_for, e_comp, e_iseq, e_rng1, e_rng3, e_zip, e_dictC, e_sc2, e_iseqF, e_yes, e_dictN, src_cells, src_great, src_rest, src_count, src_putR, src_putC, src_len, sz4l, e_nget1, e_nget2, e_lockN, e_dictCN, e_disp, e_ap0, e_ap1, e_gtp, e_gc, e_gn0,
  e_addI, e_addS, e_addT, e_addL, e_i20, e_i2, e_neg, e_cmpI, e_cmpS, e_eqI, e_eqS, e_eqB, e_ixT, e_ixLit, e_ixL, e_ixS, e_set, e_ixAT, e_ixALit, e_ixAL, e_ixAS, e_ixAD, e_setAL, e_setAD, e_dict0, e_inAL, e_inAT, e_inAD, e_inAS, e_listAT, e_listALit, e_listAL, e_listAD, e_max2, e_extend, e_isalpha, e_enum, keyW, sz0, sz1, sz2, sz3, sz4, sz5, sz6, O.dk.injEq, e_slT, e_slLit, e_slS, e_slL, e_lenAS, e_lenAT, e_lenALit, e_lenAL, e_lenAD, e_lenS, e_lenT, e_lenLit, e_lenL, e_i1, e_intI, e_intB, e_strI, e_strS, e_listT, e_listLit, e_listL, e_tupleT, e_tupleL, e_append, e_pop0, e_tyL, e_tyS, e_truL, e_truT, e_truB, e_truI, e_truS, e_truN, e_seqT, e_seqLit, e_seqL, e_in, e_inT, e_isi, kit_ll, kit_ss, kit_tt, kit_ii, kit_ib, tyW_L, tyW_S, tyW_T, tyW_I, tyW_B, cut_to1, cut_to2, cut_from1, wipeW_nil, wipeW_cons, Nat.reduceAdd, eq_self, List.map_cons, List.map_nil,
  atI_0, atI_1, atI_2, atI_3, atI_4, atI_5, atI_end, ixN_0, ixN_1, ixN_11, ixN_last, List.map_append, List.map_cons, List.map_nil, get_app, get_app0, set_app, set_app0, List.cons_append, List.nil_append, List.append_assoc, List.length_append, List.length_cons, List.length_nil, Nat.zero_add, List.length_map, List.length_set,
  List.getElem?_cons_zero, List.getElem?_cons_succ, List.set_cons_zero, List.set_cons_succ, Option.some.injEq, exists_eq_left', exists_eq_left, exists_and_left, W.int.injEq, W.bl.injEq, W.str.injEq, W.tup.injEq, W.ref.injEq, O.lst.injEq, List.cons.injEq, reduceCtorEq, false_and, exists_false, or_false, false_or, true_and, and_true, decide_eq_true_eq, Bool.false_xor, Bool.true_xor, Bool.not_eq_true', decide_eq_false_iff_not, List.isEmpty_cons, List.isEmpty_nil, Bool.not_true, Bool.not_false, if_true, if_false, not_true_eq_false, not_false_eq_true, ne_eq, Bool.false_eq_true, reduceIte])


variable {P : Program} {w : World}
theorem eq_strs {a b : Str} {S : Sto} {Q : WK} (q : Q (.bl (decide (a = b))) S) : vEq (.str a) (.str b) S Q := by
  show vEqG false _ _ _ _
  rw [e_eqS, Bool.false_xor]
  exact q
/-! ### _law_by -/
def F_by (P : Program) (w : World) : DSpec := fun ws S Q => ∃ ts x1 ds x3 x4 rows n, ws = [houseW ts x1 ds x3 x4, storeW rows, .int n] ∧ OkHouse ts ds ∧ OkStore ts rows ∧ ∀ L, ByOk rows ds n L → Q (.ref S.length) (S ++ [.lst (L.map pickW)])
theorem rowsOf_snoc (pre : List Row) (p : Row) (T : Str) : rowsOf (pre ++ [p]) T = if p.1 = T then rowsOf pre T ++ [p.2] else rowsOf pre T := by
  unfold rowsOf
  rw [List.filter_append, List.map_append]
  split
  · rename_i h
    simp [h]
  · rename_i h
    simp [h]
theorem by_keys {rows : List Row} {ts : List Tab} (okT : OkTabs ts) (okS : OkStore ts rows) {d : Door} (okD : OkDoor ts d) {S : Sto} {Q : WK} {i : Nat} {es : List (List Int × Nat)} (nd : (es.map (·.1)).Nodup) (mem : ∀ k, k ∈ es.map (·.1) ↔ ∃ r ∈ rowsOf rows d.table, told d.cols r = k)
    (hi : S[i]? = some (.lst ((es.map (·.1)).map intsT))) (q : ∀ ks : List (List Int), ks.Perm (es.map (·.1)) → (ks.map intsT).Pairwise (fun a b => leW a b = true) → Q (.ref S.length) (S ++ [.lst (ks.map intsT)])) : vSortE [.ref i] S Q := by
  have tl : ∀ k ∈ es.map (·.1), k.length = d.cols.length := fun k hk => by
    obtain ⟨r, _, e⟩ := (mem k).mp hk
    rw [← e]
    exact List.length_map _
  have main : (∀ w ∈ (es.map (·.1)).map intsT, ∃ x r, w = .tup (x :: r)) → vSortE [.ref i] S Q := fun hs => by
    refine .inl (sorted_std (k := .seq .i) hi (ints_all_std _) (ints_all_K _) (.inl hs) ?_)
    obtain ⟨ks, he, hks⟩ := perm_map_inv (List.mergeSort_perm ((es.map (·.1)).map intsT) leW) (es.map (·.1)) rfl
    have hasc := sort_asc ((es.map (·.1)).map intsT)
    rw [he] at hasc ⊢
    exact q ks hks hasc
  by_cases h0 : d.cols.length = 0
  · have all0 : ∀ k ∈ es.map (·.1), k = [] := fun k hk => List.eq_nil_of_length_eq_zero ((tl k hk).trans h0)
    cases hes : es.map (·.1) with
    | nil =>
      refine main fun w hw => ?_
      rw [hes] at hw
      cases hw
    | cons a l =>
      have ha := all0 a (by rw [hes]; simp)
      cases l with
      | nil =>
        subst ha
        rw [hes] at hi q
        exact .inr ⟨hi, q [[]] (List.Perm.refl _) (by simp)⟩
      | cons b l =>
        have hb := all0 b (by rw [hes]; simp)
        rw [hes, ha, hb] at nd
        exact absurd nd (by simp)
  · refine main (ints_cons fun k hk => ?_)
    rw [tl k hk]
    omega
theorem far_get {S H : Sto} {a b : O} {j : Nat} (h : S.length < j) : (S ++ a :: H)[j]? = (S ++ b :: H)[j]? := by
  obtain ⟨k, hk⟩ : ∃ k, j = S.length + (k + 1) := ⟨j - S.length - 1, by omega⟩
  rw [hk, get_app, get_app, List.getElem?_cons_succ, List.getElem?_cons_succ]
theorem Grp.swap {S H : Sto} {a b : O} {p : Nat} {z : Option Obj} {cols : List Nat} {done : List (List Int)} {es : List (List Int × Nat)} (h : Grp P w (S ++ a :: H) p z cols done es) (hp : S.length < p) (hf : ∀ e ∈ es, S.length < e.2) : Grp P w (S ++ b :: H) p z cols done es :=
  ⟨by rw [far_get hp (b := a)]; exact h.dict, h.nd, h.inj, h.ne, fun e he => by rw [far_get (hf e he) (b := a)]; exact h.lst e he, h.mem⟩
theorem vc_by : ∀ ws S Q, Closed S → F_by P w ws S Q → d_law_by P w (endsW S.length Q) (startW N_law_by.length ws) S := by
  rintro ws S Q cl ⟨ts, x1, ds, x3, x4, rows, n, rfl, okH, okS, q⟩
  show d_law_by P w _ [some (houseW ts x1 ds x3 x4), some (storeW rows), some (.int n), none, none, none, none, none, none, none, none] _
  unfold d_law_by
  have okT := okH.tabs
  have so : ∀ e ∈ ds, PyData.strOk e.name = true := fun e he => (okH.ok e he).name
  have d8 := okH.d8
  walk_at "dl"
  refine forM (fun pre e s => ∃ (L : List Pick) (G : Sto) (x4' x5 x6 x7 x8 x9 x10 : Option DL.W), ByOk rows pre n L ∧ e = [some (houseW ts x1 ds x3 x4), some (storeW rows), some (.int n), some (.ref S.length), x4', x5, x6, x7, x8, x9, x10] ∧ s = S ++ .lst (L.map pickW) :: G) ⟨[], [], _, _, _, _, _, _, _, ⟨byM_nil, by simp⟩, rfl, rfl⟩ ?_ ?_
  · rintro pre d post e s hpre ⟨L, G, y4, y5, y6, y7, y8, y9, y10, hL, rfl, rfl⟩ N hN
    have hdm : d ∈ ds := by rw [hpre]; simp
    have hpl : pre.length < ds.length := by rw [hpre]; simp
    have okD := okH.ok d hdm
    have hLl := hL.len
    refine ⟨trivial, ?_⟩
    rw [e_nm, e_ifs, e_B, e_op, e_op, e_var rfl, e_c, e_ixAT atI_3, e_c]
    refine eq_strs ⟨_, rfl, ?_⟩
    by_cases h1 : kindS d.one = Str.ofString "one"
    · rw [decide_eq_true h1, if_pos rfl]
      have hone := kind_one.mp h1
      generalize hSL : S ++ O.lst (L.map pickW) :: G = S1
      refine seqI (fun e s => e = [some (houseW ts x1 ds x3 x4), some (storeW rows), some (.int n), some (.ref S.length), some (doorW d), some (.ref S1.length), y6, y7, y8, y9, y10] ∧ s = S1 ++ [.nd P w none []]) (fun N2 hN2 => ?_) ?_
      · walk_at "dl"
        exact hN2 _ _ ⟨rfl, rfl⟩
      rintro e s ⟨rfl, rfl⟩
      refine seqI (fun e s => ∃ (G2 : Sto) (es : List (List Int × Nat)) (x6 x7 x8 x9 : Option DL.W), (∀ e ∈ es, S1.length ≤ e.2) ∧ Grp P w (S1 ++ G2) S1.length none d.cols (rowsOf rows d.table) es ∧ e = [some (houseW ts x1 ds x3 x4), some (storeW rows), some (.int n), some (.ref S.length), some (doorW d), some (.ref S1.length), x6, x7, x8, x9, y10] ∧ s = S1 ++ G2) (fun N2 hN2 => ?_) ?_
      · walk_at "dl"
        refine forM (fun pr e s => ∃ (G2 : Sto) (es : List (List Int × Nat)) (x6 x7 x8 x9 : Option DL.W), (∀ e ∈ es, S1.length ≤ e.2) ∧ Grp P w (S1 ++ G2) S1.length none d.cols (rowsOf pr d.table) es ∧ e = [some (houseW ts x1 ds x3 x4), some (storeW rows), some (.int n), some (.ref S.length), some (doorW d), some (.ref S1.length), x6, x7, x8, x9, y10] ∧ s = S1 ++ G2) ⟨[.nd P w none []], [], _, _, _, _, by simp, grp_nil, rfl, rfl⟩ ?_ ?_
        · rintro pr p post2 e s hpr ⟨G2, es, z6, z7, z8, z9, hfar, gr, rfl, rfl⟩ N3 hN3
          have hpm : p ∈ rows := by rw [hpr]; simp
          have hprl : pr.length < 300 := by
            have := congrArg List.length hpr
            have := okS.len
            simp at *
            omega
          have hesl : es.length < 300 := Nat.lt_of_le_of_lt gr.len (Nat.lt_of_le_of_lt rowsOf_len hprl)
          refine ⟨trivial, ?_⟩
          rw [e_nm]
          refine seqI (fun e s => ∃ (G2 : Sto) (z9 : Option DL.W), Grp P w (S1 ++ G2) S1.length none d.cols (rowsOf pr d.table) es ∧ e = [some (houseW ts x1 ds x3 x4), some (storeW rows), some (.int n), some (.ref S.length), some (doorW d), some (.ref S1.length), some (rowW p), some (if p.1 = d.table then intsT (told d.cols p.2) else .non), z8, z9, y10] ∧ s = S1 ++ G2) (fun N4 hN4 => ?_) ?_
          · walk_at "dl"
            by_cases ht : p.1 = d.table
            · rw [if_pos ht]
              have hrr : p.2 ∈ rowsOf rows d.table := List.mem_map.mpr ⟨p, List.mem_filter.mpr ⟨hpm, decide_eq_true ht⟩, rfl⟩
              have hcols := (rowsOf_ok okT okS okD p.2 hrr).2
              refine compM (S := S1 ++ G2) (h := fun c : Nat => W.int (p.2.getD c 0)) trivial (by have := okD.len; omega) (fun c hc K hK => ?_) ?_
              · have hcl := hcols c hc
                walk_at "dl"
                rw [e_ixAT (w := W.int (p.2.getD c 0)) (atI_nat ?_)]
                · exact hK
                · rw [List.getElem?_map, List.getD_eq_getElem?_getD, List.getElem?_eq_getElem hcl]
                  rfl
              · rw [e_tupleL newA]
                refine hN4 _ _ ⟨G2 ++ [.lst ((told d.cols p.2).map W.int)], z9, ?_, ?_, ?_⟩
                · rw [← List.append_assoc]
                  exact gr.app _
                · rw [if_pos ht]
                  unfold told intsT
                  rw [List.map_map]
                  rfl
                · unfold told
                  rw [List.map_map, List.append_assoc]
                  rfl
            · rw [if_neg ht]
              exact hN4 _ _ ⟨G2, z9, gr, by rw [if_neg ht], rfl⟩
          clear gr G2 z9
          rintro e s ⟨G2, z9, gr, rfl, rfl⟩
          by_cases ht : p.1 = d.table
          · rw [if_pos ht]
            have hdone : rowsOf (pr ++ [p]) d.table = rowsOf pr d.table ++ [p.2] := by rw [rowsOf_snoc, if_pos ht]
            rw [hdone] at hN3
            walk_at "dl"
            refine ndin_ok gr.dict (hkW_ints _) ?_
            rw [Bool.true_xor]
            by_cases hk : told d.cols p.2 ∈ es.map (·.1)
            · obtain ⟨e, he, hke⟩ := List.mem_map.mp hk
              rw [← hke, valG_at gr.nd he, Option.isSome_some]
              refine ⟨_, rfl, ?_⟩
              rw [Bool.not_true, if_neg Bool.false_ne_true]
              refine ndix_ok gr.dict (hkW_ints _) (valG_at gr.nd he) ?_
              have hl := gr.lst e he
              have g3 := gr.old he hke.symm
              walk_at "dl"
              refine ⟨by rw [e_tyL hl]; trivial, ?_⟩
              rw [e_append hl]
              rw [set_far (hfar e he)] at g3 ⊢
              refine ⟨lt_sz (by rw [List.length_map]; have := List.length_filter_le (fun x => decide (told d.cols x = e.1)) (rowsOf pr d.table); have := rowsOf_len (rows := pr) (T := d.table); omega), hN3 _ _ ⟨_, es, _, _, _, _, hfar, g3, rfl, rfl⟩⟩
            · rw [valG_none hk, Option.isSome_none]
              refine ⟨_, rfl, ?_⟩
              rw [Bool.not_false, if_pos rfl]
              refine ndset_ok (kvs := es.map kvG) (get_old gr.dict) (hkW_ints _) (by rw [List.length_map]; omega) ?_
              have g3 := gr.new hk
              have hdl := (List.getElem?_eq_some_iff.mp gr.dict).1
              have hne : S1.length ≠ (S1 ++ G2).length := by omega
              refine ndix_ok (z := none) (kvs := putN (es.map kvG) (intsT (told d.cols p.2)) (.ref (S1 ++ G2).length)) (v := .ref (S1 ++ G2).length) (List.getElem?_set_self (by rw [List.length_append]; omega)) (hkW_ints _) (by rw [putG_new hk]; exact valG_at g3.nd (e := (told d.cols p.2, (S1 ++ G2).length)) (by simp)) ?_
              have hl : ((S1 ++ G2 ++ [O.lst []]).set S1.length (.nd P w none (putN (es.map kvG) (intsT (told d.cols p.2)) (.ref (S1 ++ G2).length))))[(S1 ++ G2).length]? = some (.lst []) := by
                rw [List.getElem?_set_ne hne]
                exact newA
              refine ⟨by rw [e_tyL hl]; trivial, ?_⟩
              rw [e_append hl]
              have es2 : ((S1 ++ G2 ++ [O.lst []]).set S1.length (.nd P w none (putN (es.map kvG) (intsT (told d.cols p.2)) (.ref (S1 ++ G2).length)))).set (S1 ++ G2).length (.lst ([] ++ [intsT p.2])) = (S1 ++ G2 ++ [O.lst [intsT p.2]]).set S1.length (.nd P w none (putN (es.map kvG) (intsT (told d.cols p.2)) (.ref (S1 ++ G2).length))) := by
                rw [List.set_comm _ _ hne, set_app0 (R := S1 ++ G2), List.set_cons_zero]
                rfl
              rw [es2]
              have far2 : ∀ e ∈ es ++ [(told d.cols p.2, (S1 ++ G2).length)], S1.length ≤ e.2 := fun e he => by
                rcases List.mem_append.mp he with h | h
                · exact hfar e h
                · rw [List.mem_singleton.mp h, List.length_append]
                  exact Nat.le_add_right _ _
              rw [List.append_assoc, set_far (Nat.le_refl _)] at g3 ⊢
              exact ⟨lt_sz (by decide), hN3 _ _ ⟨_, _, _, _, _, _, far2, g3, rfl, rfl⟩⟩
          · rw [if_neg ht]
            have hdone : rowsOf (pr ++ [p]) d.table = rowsOf pr d.table := by rw [rowsOf_snoc, if_neg ht]
            rw [hdone] at hN3
            walk_at "dl"
            exact hN3 _ _ ⟨G2, es, _, _, _, _, hfar, gr, rfl, rfl⟩
        · rintro e s ⟨G2, es, z6, z7, z8, z9, hfar, gr, rfl, rfl⟩
          exact ⟨trivial, hN2 _ _ ⟨G2, es, _, _, _, _, hfar, gr, rfl, rfl⟩⟩
      rintro e s ⟨G2, es, z6, z7, z8, z9, hfar, gr, rfl, rfl⟩
      have hel : es.length ≤ 300 := Nat.le_trans gr.len (Nat.le_trans rowsOf_len okS.len)
      have hS1 : S.length < S1.length := by rw [← hSL, List.length_append, List.length_cons]; omega
      have hfar1 : ∀ e ∈ es, S.length < e.2 := fun e he => Nat.lt_of_lt_of_le hS1 (hfar e he)
      rw [e_for, e_iseq, e_cb, e_cons, e_comp, e_lockN, e_var rfl]
      refine ⟨_, none, _, rfl, gr.dict, fun o => ?_⟩
      have gr2 := gr.lock o
      rw [set_far (Nat.le_refl _)] at gr2 ⊢
      generalize G2.set (S1.length - S1.length) (.nd P w (some o) (es.map kvG)) = G3 at gr2 ⊢
      rw [List.map_map]
      refine compM (S := S1 ++ G3) (h := fun e : List Int × Nat => intsT e.1) trivial (by omega) (fun e he K hK => ?_) ?_
      · rw [e_var rfl]
        exact hK
      rw [e_nil]
      refine by_keys (i := (S1 ++ G3).length) okT okS okD gr2.nd gr2.mem (by rw [List.map_map]; exact newA) fun ks hks hka => ?_
      rw [e_seqL newA]
      have hkl : ks.length = es.length := by rw [hks.length_eq, List.length_map]
      have knd : ks.Nodup := hks.nodup_iff.mpr gr2.nd
      have kmem : ∀ k, k ∈ ks ↔ ∃ r ∈ rowsOf rows d.table, told d.cols r = k := fun k => (hks.mem_iff).trans (gr2.mem k)
      have g4 := (gr2.app [.lst (es.map fun e => intsT e.1)]).app [.lst (ks.map intsT)]
      obtain ⟨H, hH⟩ : ∃ H, S1 ++ G3 ++ [O.lst (es.map fun e => intsT e.1)] ++ [O.lst (ks.map intsT)] = S ++ .lst (L.map pickW) :: H := ⟨G ++ G3 ++ [O.lst (es.map fun e => intsT e.1)] ++ [O.lst (ks.map intsT)], by rw [← hSL]; simp⟩
      have hkj : S.length < (S1 ++ G3 ++ [O.lst (es.map fun e => intsT e.1)]).length := by rw [List.length_append, List.length_append]; omega
      have hK0 : (S ++ .lst (L.map pickW) :: H)[(S1 ++ G3 ++ [O.lst (es.map fun e => intsT e.1)]).length]? = some (.lst (ks.map intsT)) := by rw [← hH]; exact newA
      rw [hH] at g4 ⊢
      generalize (S1 ++ G3 ++ [O.lst (es.map fun e => intsT e.1)]).length = kj at hkj hK0 ⊢
      refine forM (fun pk e s => ∃ (Gx : Sto) (x7 x8 : Option DL.W), e = [some (houseW ts x1 ds x3 x4), some (storeW rows), some (.int n), some (.ref S.length), some (doorW d), some (.ref S1.length), z6, x7, x8, z9, y10] ∧ s = S ++ .lst ((L ++ pk.map (byP rows n d)).map pickW) :: (H ++ Gx)) ⟨[], _, _, rfl, by simp⟩ ?_ ?_
      · rintro pk call post2 e s hpk ⟨Gx, w7, w8, rfl, rfl⟩ N2 hN2
        have hcm : call ∈ ks := by rw [hpk]; simp
        have hpkl : pk.length < 300 := by
          have := congrArg List.length hpk
          rw [List.length_append, List.length_cons] at this
          omega
        obtain ⟨e1, hem, hce⟩ := List.mem_map.mp ((hks.mem_iff).mp hcm)
        subst hce
        have eM : (L ++ (pk ++ [e1.1]).map (byP rows n d)) = (L ++ pk.map (byP rows n d)) ++ [byP rows n d e1.1] := by rw [List.map_append, ← List.append_assoc]; rfl
        have hMl : (L ++ pk.map (byP rows n d)).length ≤ 2700 := by
          rw [List.length_append, List.length_map]
          omega
        rw [eM] at hN2
        generalize (L ++ pk.map (byP rows n d)) = M at hN2 hMl ⊢
        have gM : Grp P w (S ++ .lst (M.map pickW) :: (H ++ Gx)) S1.length (some o) d.cols (rowsOf rows d.table) es := by
          have z := (g4.app Gx)
          rw [List.append_assoc, List.cons_append] at z
          exact z.swap hS1 hfar1
        have hne := gM.ne_nil hem
        have hml : meets rows d e1.1 ≠ [] := hne
        have hl : (S ++ .lst (M.map pickW) :: (H ++ Gx))[e1.2]? = some (.lst ((meets rows d e1.1).map intsT)) := gM.lst e1 hem
        obtain ⟨m0, m1⟩ := at_mod (m := meets rows d e1.1) hml n
        have still : ∀ M : O, (S ++ M :: (H ++ Gx))[kj]? = some (.lst (ks.map intsT)) := fun M => by
          rw [far_get hkj (b := .lst (L.map pickW))]
          have z := get_old (G := Gx) hK0
          rwa [List.append_assoc, List.cons_append] at z
        refine ⟨still _, ?_⟩
        rw [e_nm, e_seq, e_asg, e_cb, e_cons, e_op, e_var rfl, e_var rfl]
        refine ndix_ok gM.dict (hkW_ints _) (valG_at gM.nd hem) ?_
        rw [e_nil]
        refine .inl (sorted_std (k := .seq .i) hl (ints_all_std _) (ints_all_K _) (.inl (ints_cons fun r hr => (rowsOf_ok okT okS okD r (List.mem_filter.mp hr).1).1)) ?_)
        rw [ints_sort (meets_asc okT okS d e1.1), e_nm]
        have hO : ∀ X : Sto, (S ++ .lst (M.map pickW) :: X)[S.length]? = some (.lst (M.map pickW)) := fun X => get_app0
        have hN0 : (S ++ .lst (M.map pickW) :: (H ++ Gx) ++ [O.lst ((meets rows d e1.1).map intsT)])[(S ++ .lst (M.map pickW) :: (H ++ Gx)).length]? = some (.lst ((meets rows d e1.1).map intsT)) := newA
        dsimp only
        have hsr : S ++ .lst (M.map pickW) :: (H ++ Gx) ++ [O.lst ((meets rows d e1.1).map intsT)] = S ++ .lst (M.map pickW) :: (H ++ (Gx ++ [O.lst ((meets rows d e1.1).map intsT)])) := by simp
        generalize (S ++ O.lst (M.map pickW) :: (H ++ Gx)).length = nj at hN0 ⊢
        rw [hsr] at hN0 ⊢
        rw [e_drop, e_bm, e_var rfl]
        refine ⟨by rw [e_tyL (hO _)]; trivial, ?_⟩
        rw [e_cons, e_tup, e_cons, e_op, e_var rfl, e_c, e_ixAT atI_0, e_cons, e_var rfl, e_cons, e_op, e_var rfl, e_op, e_cb, e_cons, e_var rfl, e_nil, e_intI, e_cb, e_cons, e_var rfl, e_nil, e_lenAL hN0, List.length_map]
        refine ⟨m0, ?_⟩
        dsimp only
        rw [e_ixAL hN0 m1, e_nil]
        refine ⟨by show 3 ≤ sizeLine; decide, ?_⟩
        rw [e_nil, e_append (hO _), set_app0, List.set_cons_zero]
        refine ⟨lt_sz (by rw [List.length_map]; omega), hN2 _ _ ⟨Gx ++ [O.lst ((meets rows d e1.1).map intsT)], _, _, rfl, ?_⟩⟩
        rw [List.map_append]
        rfl
      · rintro e s ⟨Gx, w7, w8, rfl, rfl⟩
        have stepped := hL.step hone (names_new okH.nd hpre) knd kmem (by omega) hka (doors_lo okH.asc so hpre) (fun e he => so e (by
          rw [hpre]
          rcases List.mem_append.mp he with h | h
          · exact List.mem_append_left _ h
          · rw [List.mem_singleton.mp h]; simp))
        refine ⟨?_, hN _ _ ⟨_, H ++ Gx, _, _, _, _, _, _, _, stepped, rfl, rfl⟩⟩
        have z := get_old (G := Gx) hK0
        rw [List.append_assoc, List.cons_append] at z
        rw [far_get hkj (b := .lst (L.map pickW))]
        exact z
    · rw [decide_eq_false h1, if_neg Bool.false_ne_true]
      refine hN _ _ ⟨L, G, _, _, _, _, _, _, _, hL.skip ?_, rfl, rfl⟩
      cases hb : d.one with
      | false => rfl
      | true => exact absurd (kind_one.mpr hb) h1
  · rintro e s ⟨L, G, y4, y5, y6, y7, y8, y9, y10, hL, rfl, rfl⟩
    refine ⟨trivial, ?_⟩
    walk_at "dl"
    exact endL (T := .lst (L.map pickW) :: G) (k := 0) cl rfl (pureL_picks L) (q L hL)

end K25

namespace K25
open PySem PySem.Spec PyProof.Rows L2 TL DL
local macro_rules | `(tactic| walk_at "dl") => `(tactic| try simp (config := { decide := false }) only [e_seq, e_asg, e_nm, e_op, e_un, e_cb, e_c, e_var, e_ifs, e_tru, e_B, e_drop, e_bm, e_bm0, e_ret, e_retN, e_next, e_break, e_cont, e_nil, e_cons, e_tup, e_lst, e_sl, e_onone, e_osome, e_gsub, e_call, e_callk, e_and, e_or, e_not, e_andv, e_orv, e_notv, e_notU, e_isI, e_isS, e_isT, e_isR, e_isN, e_if, e_par, e_for, e_comp, e_iseq, e_rng1, e_rng3, e_zip, e_dictC, e_sc2, e_iseqF, e_yes, e_dictN, src_cells, src_great, src_rest, src_count, src_putR, src_putC, src_len, sz4l, e_nget1, e_nget2, e_lockN, e_dictCN, e_disp, e_ap0, e_ap1, e_gtp, e_gc, e_gn0,
  e_addI, e_addS, e_addT, e_addL, e_i20, e_i2, e_neg, e_cmpI, e_cmpS, e_eqI, e_eqS, e_eqB, e_ixT, e_ixLit, e_ixL, e_ixS, e_set, e_ixAT, e_ixALit, e_ixAL, e_ixAS, e_ixAD, e_setAL, e_setAD, e_dict0, e_inAL, e_inAT, e_inAD, e_inAS, e_listAT, e_listALit, e_listAL, e_listAD, e_max2, e_extend, e_isalpha, e_enum, keyW, sz0, sz1, sz2, sz3, sz4, sz5, sz6, O.dk.injEq, e_slT, e_slLit, e_slS, e_slL, e_lenAS, e_lenAT, e_lenALit, e_lenAL, e_lenAD, e_lenS, e_lenT, e_lenLit, e_lenL, e_i1, e_intI, e_intB, e_strI, e_strS, e_listT, e_listLit, e_listL, e_tupleT, e_tupleL, e_append, e_pop0, e_tyL, e_tyS, e_truL, e_truT, e_truB, e_truI, e_truS, e_truN, e_seqT, e_seqLit, e_seqL, e_in, e_inT, e_isi, kit_ll, kit_ss, kit_tt, kit_ii, kit_ib, tyW_L, tyW_S, tyW_T, tyW_I, tyW_B, cut_to1, cut_to2, cut_from1, wipeW_nil, wipeW_cons, Nat.reduceAdd, eq_self, List.map_cons, List.map_nil,
  atI_0, atI_1, atI_2, atI_3, atI_4, atI_5, atI_end, ixN_0, ixN_1, ixN_11, ixN_last, List.map_append, List.map_cons, List.map_nil, get_app, get_app0, set_app, set_app0, List.cons_append, List.nil_append, List.append_assoc, List.length_append, List.length_cons, List.length_nil, Nat.zero_add, List.length_map, List.length_set,
  List.getElem?_cons_zero, List.getElem?_cons_succ, List.set_cons_zero, List.set_cons_succ, Option.some.injEq, exists_eq_left', exists_eq_left, exists_and_left, W.int.injEq, W.bl.injEq, W.str.injEq, W.tup.injEq, W.ref.injEq, O.lst.injEq, List.cons.injEq, reduceCtorEq, false_and, exists_false, or_false, false_or, true_and, and_true, decide_eq_true_eq, Bool.false_xor, Bool.true_xor, Bool.not_eq_true', decide_eq_false_iff_not, List.isEmpty_cons, List.isEmpty_nil, Bool.not_true, Bool.not_false, if_true, if_false, not_true_eq_false, not_false_eq_true, ne_eq, Bool.false_eq_true, reduceIte])


variable {P : Program} {w : World}
/-! ### sizes -/
theorem nodes_ints (r : List Int) : nodes (intsT r) = r.length + 1 := by
  have go : ∀ r : List Int, nodesL (r.map W.int) = r.length := by
    intro r
    induction r with
    | nil => rfl
    | cons a r ih =>
      show 1 + nodesL (r.map W.int) = r.length + 1
      rw [ih]
      omega
  show nodesL (r.map W.int) + 1 = _
  rw [go]
theorem nodesL_bound {α : Type} {f : α → DL.W} {k : Nat} : ∀ {xs : List α}, (∀ x ∈ xs, nodes (f x) ≤ k) → nodesL (xs.map f) ≤ xs.length * k
  | [], _ => Nat.zero_le _
  | x :: xs, h => by
    have h1 := h x (List.mem_cons_self ..)
    have h2 := nodesL_bound (f := f) (k := k) (xs := xs) fun y hy => h y (List.mem_cons_of_mem _ hy)
    show nodes (f x) + nodesL (xs.map f) ≤ (xs.length + 1) * k
    rw [Nat.add_mul, Nat.one_mul]
    omega
theorem rowsOf_w {ts : List Tab} (okT : OkTabs ts) {rows : List Row} (okS : OkStore ts rows) {T : Str} : ∀ r ∈ rowsOf rows T, r.length ≤ 4 := by
  intro r hr
  obtain ⟨p, hp, rfl⟩ := List.mem_map.mp hr
  obtain ⟨hp1, _⟩ := List.mem_filter.mp hp
  obtain ⟨t, ht, _, e2⟩ := okS.ok p hp1
  rw [e2]
  exact (okT.w t ht).2.1
theorem due_sub {rows : List Row} {ps : List Pick} {d : Door} {call : List Int} : (∀ r ∈ due rows ps d call, r ∈ meets rows d call) ∧ (due rows ps d call).length ≤ (meets rows d call).length := by
  unfold due
  split
  · exact ⟨fun _ h => h, Nat.le_refl _⟩
  · rename_i hne
    split
    · rename_i p hf
      have z : p.1 = d.name ∧ p.2.1 = call ∧ p.2.2 ∈ meets rows d call := by
        have z := List.find?_some hf
        simpa only [decide_eq_true_eq] using z
      refine ⟨fun r hr => by rw [List.mem_singleton.mp hr]; exact z.2.2, ?_⟩
      exact List.length_pos_of_mem z.2.2
    · exact ⟨fun r hr => List.mem_of_mem_take hr, by rw [List.length_take]; omega⟩
theorem due_size {ts : List Tab} (okT : OkTabs ts) {rows : List Row} (okS : OkStore ts rows) {ps : List Pick} {d : Door} {call : List Int} : W.stdL ((due rows ps d call).map intsT) = true ∧ nodesL ((due rows ps d call).map intsT) ≤ 39000 := by
  obtain ⟨h1, h2⟩ := due_sub (rows := rows) (ps := ps) (d := d) (call := call)
  have h3 : (meets rows d call).length ≤ 300 := Nat.le_trans (List.length_filter_le _ _) (Nat.le_trans rowsOf_len okS.len)
  refine ⟨(stdL_iff _).mpr (ints_all_std _), ?_⟩
  refine Nat.le_trans (nodesL_bound (k := 5) fun r hr => ?_) (by omega)
  rw [nodes_ints]
  have := rowsOf_w okT okS r (List.mem_filter.mp (h1 r hr)).1
  omega
theorem by_size {ts : List Tab} {ds : List Door} (okH : OkHouse ts ds) {rows : List Row} (okS : OkStore ts rows) {n : Int} {L : List Pick} (h : ByOk rows ds n L) : W.stdL (L.map pickW) = true ∧ nodesL (L.map pickW) ≤ 39000 := by
  have d8 := okH.d8
  have hl := h.len
  refine ⟨(stdL_iff _).mpr fun w hw => ?_, ?_⟩
  · obtain ⟨p, hp, rfl⟩ := List.mem_map.mp hw
    obtain ⟨d, hd, e⟩ := h.names hp
    exact pick_std (by rw [e]; exact (okH.ok d hd).name)
  · refine Nat.le_trans (nodesL_bound (k := 12) fun p hp => ?_) (by omega)
    obtain ⟨d, hd, _, r, hr, rfl⟩ := (h.mem p).mp hp
    have hm : meets rows d (told d.cols r) ≠ [] := List.ne_nil_of_mem (List.mem_filter.mpr ⟨hr, decide_eq_true rfl⟩)
    have h0 : 0 < (meets rows d (told d.cols r)).length := List.length_pos_iff.mpr hm
    have a0 := Int.emod_nonneg n (b := ((meets rows d (told d.cols r)).length : Int)) (by omega)
    have a1 := Int.emod_lt_of_pos n (b := ((meets rows d (told d.cols r)).length : Int)) (by omega)
    have hin : atN n (meets rows d (told d.cols r)) ∈ meets rows d (told d.cols r) := by
      unfold atN
      rw [List.getD_eq_getElem?_getD, List.getElem?_eq_getElem (by omega)]
      exact List.getElem_mem _
    have w1 := rowsOf_w okH.tabs okS _ (List.mem_filter.mp hin).1
    have w2 := (okH.ok d hd).len
    show 1 + (nodes (intsT (told d.cols r)) + (nodes (intsT (atN n (meets rows d (told d.cols r)))) + 0)) + 1 ≤ 12
    rw [nodes_ints, nodes_ints]
    have e : (told d.cols r).length = d.cols.length := List.length_map _
    omega
/-! ### _law_asked -/
def F_asked (P : Program) (w : World) : DSpec := fun ws S Q => ∃ st R jn jv names vals b, ws = [.ref 2, .ref (jn + 1 + 1 + 1), .ref (jv + 1 + 1 + 1), .bl b] ∧ S = SB st R ∧ Good st ∧ R[jn]? = some (stro names) ∧ R[jv]? = some (iLst vals) ∧ names.Nodup ∧ names.length = 12 ∧ (∀ x ∈ names, OkS x) ∧ 0 < vals.length ∧ vals.length ≤ 20 ∧
  ∀ st', Good st' → Q (.bl true) (SB st' R)
theorem vc_asked : ∀ ws S Q, Closed S → F_asked P w ws S Q → d_law_asked F_house F_wide F_store F_draw (F_picks P w) F_calls F_due F_same (F_shows P w) (F_by P w) (F_picks_by P w) (endsW S.length Q) (startW N_law_asked.length ws) S := by
  rintro ws S Q cl ⟨st, R, jn, jv, names, vals, b, rfl, rfl, g, hn, hv, nd, nl, nok, v0, v20, q⟩
  show d_law_asked F_house F_wide F_store F_draw (F_picks P w) F_calls F_due F_same (F_shows P w) (F_by P w) (F_picks_by P w) _ [some (.ref 2), some (.ref (jn + 1 + 1 + 1)), some (.ref (jv + 1 + 1 + 1)), some (.bl b), none, none, none, none, none, none, none, none, none, none, none] _
  unfold d_law_asked
  refine seqI (fun e s => ∃ st2 ts x1 ds x3 x4, Good st2 ∧ OkHouse ts ds ∧ e = [some (.ref 2), some (.ref (jn + 1 + 1 + 1)), some (.ref (jv + 1 + 1 + 1)), some (.bl b), some (houseW ts x1 ds x3 x4), none, none, none, none, none, none, none, none, none, none] ∧ s = SB st2 R) (fun N hN => ?_) ?_
  · walk_at "dl"
    exact ⟨st, R, jn, jv, names, vals, rfl, rfl, g, hn, hv, nd, nl, nok, v20, fun st2 ts x1 ds x3 x4 g2 okH _ _ _ => hN _ _ ⟨st2, ts, x1, ds, x3, x4, g2, okH, rfl, rfl⟩⟩
  clear g
  rintro e s ⟨st2, ts, x1, ds, x3, x4, g, okH, rfl, rfl⟩
  have okT := okH.tabs
  refine seqI (fun e s => ∃ st2 rows, Good st2 ∧ OkStore ts rows ∧ e = [some (.ref 2), some (.ref (jn + 1 + 1 + 1)), some (.ref (jv + 1 + 1 + 1)), some (.bl b), some (houseW ts x1 ds x3 x4), some (storeW rows), none, none, none, none, none, none, none, none, none] ∧ s = SB st2 R) (fun N hN => ?_) ?_
  · walk_at "dl"
    split
    · exact ⟨st2, R, ts, x1, ds, x3, x4, rfl, rfl, g, okT, fun st3 rows g3 okS => hN _ _ ⟨st3, rows, g3, okS, rfl, rfl⟩⟩
    · refine draw_ok g (by decide) (by decide) fun st3 r g3 r0 r1 => ?_
      exact ⟨st3, R, jv, vals, ts, x1, ds, x3, x4, r, rfl, rfl, g3, hv, v0, v20, okT, r0, by omega, fun st4 rows g4 okS => hN _ _ ⟨st4, rows, g4, okS, rfl, rfl⟩⟩
  clear g st2
  rintro e s ⟨st2, rows, g, okS, rfl, rfl⟩
  refine seqI (fun e s => ∃ st2 others, Good st2 ∧ OkStore ts others ∧ e = [some (.ref 2), some (.ref (jn + 1 + 1 + 1)), some (.ref (jv + 1 + 1 + 1)), some (.bl b), some (houseW ts x1 ds x3 x4), some (storeW rows), some (storeW others), none, none, none, none, none, none, none, none] ∧ s = SB st2 R) (fun N hN => ?_) ?_
  · walk_at "dl"
    refine draw_ok g (by decide) (by decide) fun st3 r g3 r0 r1 => ?_
    walk_at "dl"
    exact ⟨st3, R, jv, vals, ts, x1, ds, x3, x4, 1 + r, rfl, rfl, g3, hv, v0, v20, okT, by omega, by omega, fun st4 rows g4 okS => hN _ _ ⟨st4, rows, g4, okS, rfl, rfl⟩⟩
  clear g st2
  rintro e s ⟨st2, others, g, okO, rfl, rfl⟩
  refine seqI (fun e s => e = [some (.ref 2), some (.ref (jn + 1 + 1 + 1)), some (.ref (jv + 1 + 1 + 1)), some (.bl b), some (houseW ts x1 ds x3 x4), some (storeW rows), some (storeW others), some (.int 0), none, none, none, none, none, none, none] ∧ s = SB st2 (R ++ [])) (fun N hN => ?_) ?_
  · walk_at "dl"
    exact hN _ _ ⟨rfl, by rw [List.append_nil]⟩
  rintro e s ⟨rfl, rfl⟩
  refine seqI (fun e s => ∃ (st2 : Src) (G : Sto) (a : Int) (x8 x9 x10 x11 x12 x13 x14 : Option DL.W), Good st2 ∧ 6 ≤ a ∧ e = [some (.ref 2), some (.ref (jn + 1 + 1 + 1)), some (.ref (jv + 1 + 1 + 1)), some (.bl b), some (houseW ts x1 ds x3 x4), some (storeW rows), some (storeW others), some (.int a), x8, x9, x10, x11, x12, x13, x14] ∧ s = SB st2 (R ++ G)) (fun N hN => ?_) ?_
  · walk_at "dl"
    refine forM (fun pre e s => ∃ (st2 : Src) (G : Sto) (x8 x9 x10 x11 x12 x13 x14 : Option DL.W), Good st2 ∧ e = [some (.ref 2), some (.ref (jn + 1 + 1 + 1)), some (.ref (jv + 1 + 1 + 1)), some (.bl b), some (houseW ts x1 ds x3 x4), some (storeW rows), some (storeW others), some (.int ((6 * pre.length : Nat) : Int)), x8, x9, x10, x11, x12, x13, x14] ∧ s = SB st2 (R ++ G)) ⟨st2, [], _, _, _, _, _, _, _, g, rfl, rfl⟩ ?_ ?_
    · clear g st2
      rintro pre d post e s hpre ⟨st2, G, x8, x9, x10, x11, x12, x13, x14, g, rfl, rfl⟩ N2 hN2
      have hdm : d ∈ ds := by rw [hpre]; simp
      have okD := okH.ok d hdm
      refine ⟨trivial, ?_⟩
      walk_at "dl"
      refine ⟨by decide, by decide, ?_⟩
      refine forW_inv (fun i e s => ∃ (st2 : Src) (G : Sto) (x9 x10 x11 x12 x13 x14 : Option DL.W), Good st2 ∧ e = [some (.ref 2), some (.ref (jn + 1 + 1 + 1)), some (.ref (jv + 1 + 1 + 1)), some (.bl b), some (houseW ts x1 ds x3 x4), some (storeW rows), some (storeW others), some (.int ((6 * pre.length + 3 * i : Nat) : Int)), some (doorW d), x9, x10, x11, x12, x13, x14] ∧ s = SB st2 (R ++ G)) ⟨st2, G, _, _, _, _, _, _, g, rfl, rfl⟩ ?_ ?_
      · clear g st2 G
        rintro i x e s hx ⟨st2, G, x9, x10, x11, x12, x13, x14, g, rfl, rfl⟩ N3 hN3
        obtain ⟨hi, rfl⟩ := rng_get hx
        refine ⟨trivial, ?_⟩
        rw [e_nm]
        refine seqI (fun e s => ∃ (st2 : Src) (ps : List Pick), Good st2 ∧ OkPicks ps ∧ ps.length ≤ 100 ∧ e = [some (.ref 2), some (.ref (jn + 1 + 1 + 1)), some (.ref (jv + 1 + 1 + 1)), some (.bl b), some (houseW ts x1 ds x3 x4), some (storeW rows), some (storeW others), some (.int ((6 * pre.length + 3 * i : Nat) : Int)), some (doorW d), some (.int (i : Int)), some (.tup (ps.map pickW)), x11, x12, x13, x14] ∧ s = SB st2 (R ++ G)) (fun N4 hN4 => ?_) ?_
        · walk_at "dl"
          exact ⟨st2, R ++ G, jv, vals, ts, x1, ds, x3, x4, rows, rfl, rfl, g, get_old hv, v0, v20, okH, okS, fun st3 ps g3 okP pl => hN4 _ _ ⟨st3, ps, g3, okP, pl, rfl, rfl⟩⟩
        clear g st2
        rintro e s ⟨st2, ps, g, okP, pl, rfl, rfl⟩
        walk_at "dl"
        refine ⟨st2, R ++ G, houseW ts x1 ds x3 x4, ts, rows, jv, vals, d, rfl, rfl, g, get_old hv, v0, v20, okT, okS, okD, fun st3 calls g3 cl3 ck => ?_⟩
        have e1 : SB st3 (R ++ G ++ [O.lst (calls.map intsT)]) = SB st3 (R ++ (G ++ [O.lst (calls.map intsT)])) := by rw [List.append_assoc]
        have e2 : (R ++ G).length + 1 + 1 + 1 = R.length + G.length + 1 + 1 + 1 := by rw [List.length_append]
        rw [e1, e2]
        dsimp only
        rw [e_seqL (sbA newA)]
        refine forM (fun pc e s => ∃ (A : Sto) (x11 x12 : Option DL.W), A[G.length]? = some (.lst (calls.map intsT)) ∧ e = [some (.ref 2), some (.ref (jn + 1 + 1 + 1)), some (.ref (jv + 1 + 1 + 1)), some (.bl b), some (houseW ts x1 ds x3 x4), some (storeW rows), some (storeW others), some (.int ((6 * pre.length + 3 * i + pc.length : Nat) : Int)), some (doorW d), some (.int (i : Int)), some (.tup (ps.map pickW)), x11, x12, x13, x14] ∧ s = SB st3 (R ++ A)) ⟨_, _, _, newA, rfl, rfl⟩ ?_ ?_
        · rintro pc call post2 e s hpc ⟨A, y11, y12, hA, rfl, rfl⟩ N4 hN4
          refine ⟨sbA hA, ?_⟩
          have same : ∀ (rw : List Row) (X : Sto) (i : Nat) (Q : WK), OkStore ts rw → (SB st3 X)[i]? = some (.lst ((due rw ps d call).map intsT)) → Q (.bl true) (SB st3 X) → F_same [.tup ((due rw ps d call).map intsT), .ref i] (SB st3 X) Q := by
            intro rw X i Q okR hX hQ
            obtain ⟨h1, h2⟩ := due_size okT okR (ps := ps) (d := d) (call := call)
            exact ⟨_, i, rfl, hX, h1, h2, hQ⟩
          have shown : ∀ (rw : List Row) (X : Sto) (Q : WK), OkStore ts rw → Q (.tup ((due rw ps d call).map intsT)) (SB st3 X) → F_shows P w [houseW ts x1 ds x3 x4, storeW rw, .tup (ps.map pickW), .str d.name, intsT call] (SB st3 X) Q :=
            fun rw X Q okR hQ => ⟨ts, x1, ds, x3, x4, rw, ps, d, call, rfl, okH, okR, okP, by omega, hdm, hQ⟩
          rw [e_nm]
          refine seqI (fun e s => ∃ (A : Sto) (k : Nat), A[G.length]? = some (.lst (calls.map intsT)) ∧ A[k]? = some (.lst ((due rows ps d call).map intsT)) ∧ e = [some (.ref 2), some (.ref (jn + 1 + 1 + 1)), some (.ref (jv + 1 + 1 + 1)), some (.bl b), some (houseW ts x1 ds x3 x4), some (storeW rows), some (storeW others), some (.int ((6 * pre.length + 3 * i + pc.length : Nat) : Int)), some (doorW d), some (.int (i : Int)), some (.tup (ps.map pickW)), some (intsT call), some (.ref (R.length + k + 1 + 1 + 1)), x13, x14] ∧ s = SB st3 (R ++ A)) (fun N5 hN5 => ?_) ?_
          · walk_at "dl"
            refine ⟨houseW ts x1 ds x3 x4, ts, rows, ps, d, call, rfl, okT, okS, okD, okP, ?_⟩
            rw [sb_len, sb_app]
            exact hN5 _ _ ⟨_, A.length, get_old hA, newA, rfl, rfl⟩
          clear hA A
          rintro e s ⟨A, k, hA, hk, rfl, rfl⟩
          refine seqI (fun e s => e = [some (.ref 2), some (.ref (jn + 1 + 1 + 1)), some (.ref (jv + 1 + 1 + 1)), some (.bl b), some (houseW ts x1 ds x3 x4), some (storeW rows), some (storeW others), some (.int ((6 * pre.length + 3 * i + pc.length : Nat) : Int)), some (doorW d), some (.int (i : Int)), some (.tup (ps.map pickW)), some (intsT call), some (.ref (R.length + k + 1 + 1 + 1)), x13, x14] ∧ s = SB st3 (R ++ A)) (fun N5 hN5 => ?_) ?_
          · walk_at "dl"
            refine shown rows _ _ okS (same rows _ _ _ okS (sbA hk) ?_)
            walk_at "dl"
            exact hN5 _ _ ⟨rfl, rfl⟩
          rintro e s ⟨rfl, rfl⟩
          refine seqI (fun e s => ∃ A : Sto, A[G.length]? = some (.lst (calls.map intsT)) ∧ A[k]? = some (.lst ((due rows ps d call).map intsT)) ∧ e = [some (.ref 2), some (.ref (jn + 1 + 1 + 1)), some (.ref (jv + 1 + 1 + 1)), some (.bl b), some (houseW ts x1 ds x3 x4), some (storeW rows), some (storeW others), some (.int ((6 * pre.length + 3 * i + pc.length : Nat) : Int)), some (doorW d), some (.int (i : Int)), some (.tup (ps.map pickW)), some (intsT call), some (.ref (R.length + k + 1 + 1 + 1)), x13, x14] ∧ s = SB st3 (R ++ A)) (fun N5 hN5 => ?_) ?_
          · walk_at "dl"
            refine shown others _ _ okO ?_
            refine ⟨houseW ts x1 ds x3 x4, ts, others, ps, d, call, rfl, okT, okO, okD, okP, ?_⟩
            rw [sb_len, sb_app]
            refine same others _ _ _ okO (sbA newA) ?_
            walk_at "dl"
            exact hN5 _ _ ⟨_, get_old hA, get_old hk, rfl, rfl⟩
          clear hA hk A
          rintro e s ⟨A, hA, hk, rfl, rfl⟩
          refine seqI (fun e s => e = [some (.ref 2), some (.ref (jn + 1 + 1 + 1)), some (.ref (jv + 1 + 1 + 1)), some (.bl b), some (houseW ts x1 ds x3 x4), some (storeW rows), some (storeW others), some (.int ((6 * pre.length + 3 * i + pc.length : Nat) : Int)), some (doorW d), some (.int (i : Int)), some (.tup (ps.map pickW)), some (intsT call), some (.ref (R.length + k + 1 + 1 + 1)), x13, x14] ∧ s = SB st3 (R ++ A)) (fun N5 hN5 => ?_) ?_
          · walk_at "dl"
            refine shown rows _ _ okS (same rows _ _ _ okS (sbA hk) ?_)
            walk_at "dl"
            exact hN5 _ _ ⟨rfl, rfl⟩
          rintro e s ⟨rfl, rfl⟩
          walk_at "dl"
          refine hN4 _ _ ⟨A, some (intsT call), some (.ref (R.length + k + 1 + 1 + 1)), hA, ?_, rfl⟩
          rw [show ((6 * pre.length + 3 * i + (pc ++ [call]).length : Nat) : Int) = ((6 * pre.length + 3 * i + pc.length : Nat) : Int) + 1 by rw [List.length_append]; rfl]
        · rintro e s ⟨A, y11, y12, hA, rfl, rfl⟩
          have e7 : ((6 * pre.length + 3 * i + calls.length : Nat) : Int) = ((6 * pre.length + 3 * (i + 1) : Nat) : Int) := by rw [cl3]; rfl
          rw [e7]
          exact ⟨sbA hA, hN3 _ _ ⟨st3, A, _, _, _, _, _, _, g3, rfl, rfl⟩⟩
      · rintro e s ⟨st2, G, x9, x10, x11, x12, x13, x14, g, rfl, rfl⟩
        have e7 : ((6 * pre.length + 3 * (rngW 0 (Int.toNat 2)).length : Nat) : Int) = ((6 * (pre ++ [d]).length : Nat) : Int) := by rw [List.length_append]; rfl
        rw [e7]
        exact ⟨trivial, hN2 _ _ ⟨st2, G, _, _, _, _, _, _, _, g, rfl, rfl⟩⟩
    · rintro e s ⟨st2, G, x8, x9, x10, x11, x12, x13, x14, g, rfl, rfl⟩
      have d1 := okH.d1
      exact ⟨trivial, hN _ _ ⟨st2, G, _, _, _, _, _, _, _, _, g, by omega, rfl, rfl⟩⟩
  clear g st2
  rintro e s ⟨st2, G, a, x8, x9, x10, x11, x12, x13, x14, g, ha, rfl, rfl⟩
  walk_at "dl"
  refine draw_ok g (by decide) (by decide) fun st3 r3 g3 _ _ => ?_
  walk_at "dl"
  refine ⟨cp _ (by decide) (by decide), ?_⟩
  refine draw_ok g3 (by decide) (by decide) fun st4 r4 g4 _ _ => ?_
  walk_at "dl"
  refine ⟨cp _ (by decide) (by decide), cmulS (by decide) (by decide), ?_⟩
  generalize r4 * 10 ^ Int.toNat 6 = r5
  have so : ∀ d ∈ ds, PyData.strOk d.name = true := fun d hd => (okH.ok d hd).name
  refine forM (f := W.int) (xs := [r3, r5, 0]) (fun _ e s => ∃ (G : Sto) (x13 x14 : Option DL.W), e = [some (.ref 2), some (.ref (jn + 1 + 1 + 1)), some (.ref (jv + 1 + 1 + 1)), some (.bl b), some (houseW ts x1 ds x3 x4), some (storeW rows), some (storeW others), some (.int a), x8, x9, x10, x11, x12, x13, x14] ∧ s = SB st4 (R ++ G)) ⟨G, _, _, rfl, rfl⟩ ?_ ?_
  · rintro pre n post e s hpre ⟨G, x13, x14, rfl, rfl⟩ N hN
    refine ⟨trivial, ?_⟩
    rw [e_nm, e_for, e_iseq, e_tup, e_cons, e_var rfl, e_cons, e_var rfl, e_nil]
    refine ⟨by show 2 ≤ sizeLine; decide, ?_⟩
    rw [e_seqT]
    refine forM (f := storeW) (xs := [rows, others]) (fun _ e s => ∃ (G : Sto) (x14 : Option DL.W), e = [some (.ref 2), some (.ref (jn + 1 + 1 + 1)), some (.ref (jv + 1 + 1 + 1)), some (.bl b), some (houseW ts x1 ds x3 x4), some (storeW rows), some (storeW others), some (.int a), x8, x9, x10, x11, x12, some (.int n), x14] ∧ s = SB st4 (R ++ G)) ⟨G, _, rfl, rfl⟩ ?_ ?_
    · rintro pre2 rw post2 e s hpre2 ⟨G, x14, rfl, rfl⟩ N2 hN2
      have okR : OkStore ts rw := by
        have hm : rw ∈ [rows, others] := by rw [hpre2]; simp
        rcases List.mem_cons.mp hm with h | h
        · rw [h]; exact okS
        · rw [List.mem_singleton.mp h]; exact okO
      refine ⟨trivial, ?_⟩
      walk_at "dl"
      refine ⟨ts, x1, ds, x3, x4, rw, n, rfl, okH, okR, fun L hL => ?_⟩
      refine ⟨ts, x1, ds, x3, x4, rw, n, rfl, okH, okR, fun M hM => ?_⟩
      have e := by_uniq hL hM so
      subst e
      rw [sb_len, sb_app]
      obtain ⟨h1, h2⟩ := by_size okH okR hL
      refine ⟨_, _, rfl, sbA newA, h1, h2, ?_⟩
      walk_at "dl"
      exact hN2 _ _ ⟨_, _, rfl, rfl⟩
    · rintro e s ⟨G, x14, rfl, rfl⟩
      exact ⟨trivial, hN _ _ ⟨G, _, _, rfl, rfl⟩⟩
  · rintro e s ⟨G, x13, x14, rfl, rfl⟩
    refine ⟨trivial, ?_⟩
    walk_at "dl"
    rw [decide_eq_true ha]
    exact endST _ cl rfl (q st4 g4)
/-! ### law -/
def F_law : DSpec := fun ws S Q => ∃ ns : List Int, ws = [.lit (ns.map W.int)] ∧ S = [] ∧ ns.length ≤ 63 ∧ ∀ S', Q (.bl true) S'
theorem vc_law : ∀ ws S Q, Closed S → F_law ws S Q → d_law F_source F_mix F_pool F_draw (F_asked P w) F_pvals (endsW S.length Q) (startW N_law.length ws) S := by
  rintro ws S Q cl ⟨ns, rfl, rfl, hl, q⟩
  show d_law F_source F_mix F_pool F_draw (F_asked P w) F_pvals _ [some _, none, none, none, none] _
  unfold d_law
  have fin : ∀ st (A : Sto), Ends0 0 Q (.bl true) (SB st A) := fun st A => Ends0.drop (S0 := []) (SB st A) (Nat.le_refl _) cl rfl (q _)
  refine seqI (fun e s => ∃ st, Good st ∧ e = [some (.lit (ns.map W.int)), some (.ref 2), none, none, none] ∧ s = SB st ([] ++ [])) (fun N hN => ?_) ?_
  · walk_at "dl"
    exact ⟨ns, rfl, rfl, hl, fun st g => hN _ _ ⟨st, g, rfl, rfl⟩⟩
  rintro e s ⟨st, g, rfl, rfl⟩
  refine seqI (fun e s => ∃ (st : Src) (R : Sto) (jn : Nat) (names : List Str), Good st ∧ R[jn]? = some (stro names) ∧ names.Nodup ∧ names.length = 12 ∧ (∀ x ∈ names, OkS x) ∧ e = [some (.lit (ns.map W.int)), some (.ref 2), some (.ref (jn + 1 + 1 + 1)), none, none] ∧ s = SB st R) (fun N hN => ?_) ?_
  · walk_at "dl"
    refine ⟨st, [], rfl, rfl, g, fun st2 names g2 nd nl nok => ?_⟩
    refine mix_ok (R := [] ++ [stro names]) (us := names.map W.str) g2 (.inr ⟨0, rfl, rfl⟩) (pureL_strs _) (by rw [List.length_map]; omega) fun st3 vs g3 hperm => ?_
    obtain ⟨fs, rfl, hf⟩ := perm_map_inv hperm names rfl
    exact hN _ _ ⟨st3, _, 1, fs, g3, rfl, hf.nodup_iff.mpr nd, hf.length_eq.trans nl, fun x hx => nok x (hf.mem_iff.mp hx), rfl, rfl⟩
  clear g st
  rintro e s ⟨st, R, jn, names, g, hn, nd, nl, nok, rfl, rfl⟩
  refine seqI (fun e s => ∃ (st : Src) (b : Bool), Good st ∧ e = [some (.lit (ns.map W.int)), some (.ref 2), some (.ref (jn + 1 + 1 + 1)), some (.bl b), none] ∧ s = SB st R) (fun N hN => ?_) ?_
  · walk_at "dl"
    refine draw_ok g (by decide) (by decide) fun st2 r g2 _ _ => ?_
    walk_at "dl"
    exact hN _ _ ⟨st2, _, g2, rfl, rfl⟩
  clear g st
  rintro e s ⟨st, b, g, rfl, rfl⟩
  refine seqI (fun e s => ∃ (st : Src) (R : Sto), s = SB st R) (fun N hN => ?_) ?_
  · have loop : ∀ (j : Int), 0 ≤ j → j ≤ 3 → ∀ D : DEnds, D.nx = N → D.rt = Ends0 0 Q → forW (gNm 4) (dIfS (dNotT (dTru (dCall (F_asked P w) (aCons (dVar 1) (aCons (dVar 2) (aCons (dCall F_pvals (aCons (dVar 1) aNil)) (aCons (dVar 3) aNil))))))) (dRet (dC (.bl false))) dNext) (fun _ => True) (rngW 0 j.toNat) D [some (.lit (ns.map W.int)), some (.ref 2), some (.ref (jn + 1 + 1 + 1)), some (.bl b), none] (SB st R) := by
      intro j j0 j3 D hD hR
      refine forW_inv (fun i e s => ∃ (st : Src) (R : Sto) (x4 : Option DL.W), Good st ∧ R[jn]? = some (stro names) ∧ e = [some (.lit (ns.map W.int)), some (.ref 2), some (.ref (jn + 1 + 1 + 1)), some (.bl b), x4] ∧ s = SB st R) ⟨st, R, _, g, hn, rfl, rfl⟩ ?_ ?_
      · clear g hn hN
        rintro i x e s hx ⟨st, R, x4, g, hn, rfl, rfl⟩ N2 hN2
        refine ⟨trivial, ?_⟩
        walk_at "dl"
        refine ⟨st, R, rfl, rfl, g, fun st2 vals g2 v0 v20 => ?_⟩
        refine ⟨st2, R ++ [iLst vals], jn, R.length, names, vals, b, rfl, rfl, g2, get_old hn, newA, nd, nl, nok, v0, v20, fun st3 g3 => ?_⟩
        walk_at "dl"
        exact hN2 _ _ ⟨st3, _, _, g3, get_old hn, rfl, rfl⟩
      · rintro e s ⟨st, R, x4, g, hn, rfl, rfl⟩
        refine ⟨trivial, ?_⟩
        rw [hD]
        exact hN _ _ ⟨st, R, rfl⟩
    walk_at "dl"
    cases b with
    | true =>
      walk_at "dl"
      refine ⟨by decide, by decide, loop 1 (by decide) (by decide) _ ?_ ?_⟩ <;> rfl
    | false =>
      walk_at "dl"
      refine ⟨by decide, by decide, loop 3 (by decide) (by decide) _ ?_ ?_⟩ <;> rfl
  rintro e s ⟨st2, R2, rfl⟩
  walk_at "dl"
  exact fin _ _

end K25

namespace K25
open PySem PySem.Spec PyProof.Rows L2 TL DL
section
variable {P : Program} {w : World} {K : Fg} {mg : Str → Option Value} {base : Heap}
theorem ok_all (T : Txt mg) (t_law_source : TFun K mg "_law_source" s_law_source ["script"]) (t_law_draw : TFun K mg "_law_draw" s_law_draw ["source", "many"]) (t_law_mix : TFun K mg "_law_mix" s_law_mix ["source", "things"]) (t_law_pool : TFun K mg "_law_pool" s_law_pool ["source", "many"]) (t_law_house : TFun K mg "_law_house" s_law_house ["source", "names", "values"]) (t_law_wide : TFun K mg "_law_wide" s_law_wide ["source", "house"]) (t_law_store : TFun K mg "_law_store" s_law_store ["source", "house", "values", "many"]) (t_law_calls : TFun K mg "_law_calls" s_law_calls ["source", "house", "store", "values", "door"]) (t_law_meets : TFun K mg "_law_meets" s_law_meets ["house", "store", "door", "told"]) (t_law_width : TFun K mg "_law_width" s_law_width ["house", "name"]) (t_law_picks : TFun K mg "_law_picks" s_law_picks ["source", "house", "store", "values"]) (t_law_due : TFun K mg "_law_due" s_law_due ["house", "store", "picks", "door", "call"]) (t_law_alike : TFun K mg "_law_alike" s_law_alike ["told", "due"]) (t_law_same : TFun K mg "_law_same" s_law_same ["told", "due"]) (t_door_of : TFun K mg "door_of" s_door_of ["house", "name"]) (t_rows_of : TFun K mg "rows_of" s_rows_of ["store", "table"]) (t_told_of : TFun K mg "told_of" s_told_of ["door", "values"]) (t_matched_by : TFun K mg "matched_by" s_matched_by ["store", "door"]) (t_picked_row : TFun K mg "picked_row" s_picked_row ["rows", "row"]) (t_shown_by : TFun K mg "shown_by" s_shown_by ["house", "store", "picks", "name"]) (t_shows : TFun K mg "shows" s_shows ["house", "store", "picks", "door", "values"]) (t_law_by : TFun K mg "_law_by" s_law_by ["house", "store", "number"]) (t_picks_by : TFun K mg "picks_by" s_picks_by ["house", "store", "number"]) (t_law_asked : TFun K mg "_law_asked" s_law_asked ["source", "names", "values", "wide"]) (t_law_pool_values : TFun K mg "_law_pool_values" s_law_pool_values ["source"]) {fl : Addr} {fdl : FuncData} (Fu : Fun K "law" "law" s_law fl fdl) : FnOk P w K mg base CX0 6 fl fdl ["script"] (spOf K F_law) := by
  have D_law_source : TDef P w K mg base 1 "_law_source" s_law_source ["script"] F_source := TFun.ok t_law_source sc_law_source (der_law_source T) (fun _ _ _ ⟨_, e, _⟩ => by rw [e]; rfl) vc_source
  have D_law_draw : TDef P w K mg base 1 "_law_draw" s_law_draw ["source", "many"] F_draw := TFun.ok t_law_draw sc_law_draw (der_law_draw T) (fun _ _ _ ⟨_, _, _, e, _⟩ => by rw [e]; rfl) vc_draw
  have D_law_mix : TDef P w K mg base 2 "_law_mix" s_law_mix ["source", "things"] F_mix := TFun.ok t_law_mix sc_law_mix (der_law_mix T D_law_draw) (fun _ _ _ ⟨_, _, _, _, e, _⟩ => by rw [e]; rfl) vc_mix
  have D_law_pool : TDef P w K mg base 2 "_law_pool" s_law_pool ["source", "many"] F_pool := TFun.ok t_law_pool sc_law_pool (der_law_pool T D_law_draw) (fun _ _ _ ⟨_, _, e, _⟩ => by rw [e]; rfl) vc_pool
  have D_law_house : TDef P w K mg base 3 "_law_house" s_law_house ["source", "names", "values"] F_house := TFun.ok t_law_house sc_law_house (der_law_house T D_law_draw D_law_mix) (fun _ _ _ ⟨_, _, _, _, _, _, e, _⟩ => by rw [e]; rfl) vc_house
  have D_law_wide : TDef P w K mg base 2 "_law_wide" s_law_wide ["source", "house"] F_wide := TFun.ok t_law_wide sc_law_wide (der_law_wide T D_law_draw) (fun _ _ _ ⟨_, _, _, _, _, _, _, e, _⟩ => by rw [e]; rfl) vc_wide
  have D_law_store : TDef P w K mg base 2 "_law_store" s_law_store ["source", "house", "values", "many"] F_store := TFun.ok t_law_store sc_law_store (der_law_store T D_law_draw) (fun _ _ _ ⟨_, _, _, _, _, _, _, _, _, _, e, _⟩ => by rw [e]; rfl) vc_store
  have D_law_calls : TDef P w K mg base 2 "_law_calls" s_law_calls ["source", "house", "store", "values", "door"] F_calls := TFun.ok t_law_calls sc_law_calls (der_law_calls T D_law_draw) (fun _ _ _ ⟨_, _, _, _, _, _, _, _, e, _⟩ => by rw [e]; rfl) vc_calls
  have D_law_meets : TDef P w K mg base 1 "_law_meets" s_law_meets ["house", "store", "door", "told"] F_meets := TFun.ok t_law_meets sc_law_meets (der_law_meets T) (fun _ _ _ ⟨_, _, _, _, _, e, _⟩ => by rw [e]; rfl) vc_meets
  have D_law_width : TDef P w K mg base 1 "_law_width" s_law_width ["house", "name"] F_width := TFun.ok t_law_width sc_law_width (der_law_width T) (fun _ _ _ ⟨_, _, _, _, _, _, _, e, _⟩ => by rw [e]; rfl) vc_width
  have D_law_picks : TDef P w K mg base 3 "_law_picks" s_law_picks ["source", "house", "store", "values"] (F_picks P w) := TFun.ok t_law_picks sc_law_picks (der_law_picks T D_law_calls D_law_meets D_law_width D_law_draw) (fun _ _ _ ⟨_, _, _, _, _, _, _, _, _, _, e, _⟩ => by rw [e]; rfl) vc_picks
  have D_law_due : TDef P w K mg base 2 "_law_due" s_law_due ["house", "store", "picks", "door", "call"] F_due := TFun.ok t_law_due sc_law_due (der_law_due T D_law_meets) (fun _ _ _ ⟨_, _, _, _, _, _, e, _⟩ => by rw [e]; rfl) vc_due
  have D_law_alike : TDef P w K mg base 1 "_law_alike" s_law_alike ["told", "due"] F_alike := TFun.ok t_law_alike sc_law_alike (der_law_alike T) (fun _ _ _ ⟨_, _, e, _⟩ => by rw [e]; rfl) vc_alike
  have D_law_same : TDef P w K mg base 2 "_law_same" s_law_same ["told", "due"] F_same := TFun.ok t_law_same sc_law_same (der_law_same T D_law_alike) (fun _ _ _ ⟨_, _, e, _⟩ => by rw [e]; rfl) vc_same
  have D_door_of : TDef P w K mg base 1 "door_of" s_door_of ["house", "name"] F_door_of := TFun.ok t_door_of sc_door_of (der_door_of T) (fun _ _ _ ⟨_, _, _, _, _, _, _, e, _⟩ => by rw [e]; rfl) vc_door_of
  have D_rows_of : TDef P w K mg base 1 "rows_of" s_rows_of ["store", "table"] F_rows_of := TFun.ok t_rows_of sc_rows_of (der_rows_of T) (fun _ _ _ ⟨_, _, e, _⟩ => by rw [e]; rfl) vc_rows_of
  have D_told_of : TDef P w K mg base 1 "told_of" s_told_of ["door", "values"] F_told_of := TFun.ok t_told_of sc_told_of (der_told_of T) (fun _ _ _ ⟨_, _, e, _⟩ => by rw [e]; rfl) vc_told_of
  have D_matched_by : TDef P w K mg base 2 "matched_by" s_matched_by ["store", "door"] (F_matched P w) := TFun.ok t_matched_by sc_matched_by (der_matched_by T D_rows_of D_told_of) (fun _ _ _ ⟨_, _, _, e, _⟩ => by rw [e]; rfl) vc_matched
  have D_picked_row : TDef P w K mg base 1 "picked_row" s_picked_row ["rows", "row"] F_picked := TFun.ok t_picked_row sc_picked_row (der_picked_row T) (fun _ _ _ ⟨_, _, _, _, e, _⟩ => by rw [e]; rfl) vc_picked
  have D_shown_by : TDef P w K mg base 3 "shown_by" s_shown_by ["house", "store", "picks", "name"] (F_shown P w) := TFun.ok t_shown_by sc_shown_by (der_shown_by T D_door_of D_matched_by D_picked_row) (fun _ _ _ ⟨_, _, _, _, _, _, _, _, e, _⟩ => by rw [e]; rfl) vc_shown
  have D_shows : TDef P w K mg base 4 "shows" s_shows ["house", "store", "picks", "door", "values"] (F_shows P w) := TFun.ok t_shows sc_shows (der_shows T D_shown_by) (fun _ _ _ ⟨_, _, _, _, _, _, _, _, _, e, _⟩ => by rw [e]; rfl) vc_shows
  have D_law_by : TDef P w K mg base 1 "_law_by" s_law_by ["house", "store", "number"] (F_by P w) := TFun.ok t_law_by sc_law_by (der_law_by T) (fun _ _ _ ⟨_, _, _, _, _, _, _, e, _⟩ => by rw [e]; rfl) vc_by
  have D_picks_by : TDef P w K mg base 3 "picks_by" s_picks_by ["house", "store", "number"] (F_picks_by P w) := TFun.ok t_picks_by sc_picks_by (der_picks_by T D_matched_by) (fun _ _ _ ⟨_, _, _, _, _, _, _, e, _⟩ => by rw [e]; rfl) vc_picks_by
  have D_law_asked : TDef P w K mg base 5 "_law_asked" s_law_asked ["source", "names", "values", "wide"] (F_asked P w) := TFun.ok t_law_asked sc_law_asked (der_law_asked T D_law_house D_law_wide D_law_store D_law_draw D_law_picks D_law_calls D_law_due D_law_same D_shows D_law_by D_picks_by) (fun _ _ _ ⟨_, _, _, _, _, _, _, e, _⟩ => by rw [e]; rfl) vc_asked
  have D_law_pool_values : TDef P w K mg base 3 "_law_pool_values" s_law_pool_values ["source"] F_pvals := TFun.ok t_law_pool_values sc_law_pool_values (der_law_pool_values T D_law_draw D_law_mix) (fun _ _ _ ⟨_, _, e, _⟩ => by rw [e]; rfl) vc_pvals
  exact fn_d Fu sc_law (fun _ _ _ ⟨_, e, _⟩ => by rw [e]; rfl) fun cdv A outer s H E hr => ⟨_, der_law T D_law_source D_law_mix D_law_pool D_law_draw D_law_asked D_law_pool_values fl cdv A outer s H E hr, vc_law⟩
end
theorem tfun_mk {K : Fg} {w : World} {h : Heap} {mg : Str → Option Value} {x : Str} {st : Stmt} {ps : List Str} {f : Addr} {oc : Value} {od an : Option Addr} {osl : Array (Option Value)} {kV doc pm cdv ct : Value} (X : K.In h) (G : h.Ns mainGlobals mg)
    (a : PySem.W.nsIn K mainGlobals x = some (some (.ref f))) (l : K.lookup f = some ⟨oc, od, .func (PySem.W.fnOf x x (defArgs st) (defBody st) (defScope st) .none kV doc pm an cdv ct), osl⟩) (c : PySem.W.codeIn K cdv x = true) (k : PySem.W.keepIn K (.ref f) = true)
    (b : ∀ (kV doc pm : Value) (an : Option Addr) (cdv ct : Value) (us : List Value), us.length = ps.length → bindArgs (PySem.W.fnOf x x (defArgs st) (defBody st) (defScope st) .none kV doc pm an cdv ct) ⟨us, []⟩ = pure (ps.zip us)) : TFun K mg x st ps :=
  ⟨f, _, fun_mk l c k, PySem.W.mg_of X G a, (fun_mk l c k).binds b⟩
theorem all_mk {l : PySem.W.OpenLaw} {w : World} {K : Fg} {h : Heap} {mg : Str → Option Value} {fa f0 f1 f2 f3 f4 f5 f6 f7 f8 f9 f10 f11 f12 f13 f14 f15 f16 f17 f18 f19 f20 f21 f22 f23 f24 f25 : Addr} (X : K.In h) (G : h.Ns mainGlobals mg) (hfa : mg "law" = some (.ref fa))
    {od0 an0 : Option Addr} {sl0 : Array (Option Value)} {oc0 kV0 dc0 pm0 cd0 ct0 : Value}
    {od1 an1 : Option Addr} {sl1 : Array (Option Value)} {oc1 kV1 dc1 pm1 cd1 ct1 : Value}
    {od2 an2 : Option Addr} {sl2 : Array (Option Value)} {oc2 kV2 dc2 pm2 cd2 ct2 : Value}
    {od3 an3 : Option Addr} {sl3 : Array (Option Value)} {oc3 kV3 dc3 pm3 cd3 ct3 : Value}
    {od4 an4 : Option Addr} {sl4 : Array (Option Value)} {oc4 kV4 dc4 pm4 cd4 ct4 : Value}
    {od5 an5 : Option Addr} {sl5 : Array (Option Value)} {oc5 kV5 dc5 pm5 cd5 ct5 : Value}
    {od6 an6 : Option Addr} {sl6 : Array (Option Value)} {oc6 kV6 dc6 pm6 cd6 ct6 : Value}
    {od7 an7 : Option Addr} {sl7 : Array (Option Value)} {oc7 kV7 dc7 pm7 cd7 ct7 : Value}
    {od8 an8 : Option Addr} {sl8 : Array (Option Value)} {oc8 kV8 dc8 pm8 cd8 ct8 : Value}
    {od9 an9 : Option Addr} {sl9 : Array (Option Value)} {oc9 kV9 dc9 pm9 cd9 ct9 : Value}
    {od10 an10 : Option Addr} {sl10 : Array (Option Value)} {oc10 kV10 dc10 pm10 cd10 ct10 : Value}
    {od11 an11 : Option Addr} {sl11 : Array (Option Value)} {oc11 kV11 dc11 pm11 cd11 ct11 : Value}
    {od12 an12 : Option Addr} {sl12 : Array (Option Value)} {oc12 kV12 dc12 pm12 cd12 ct12 : Value}
    {od13 an13 : Option Addr} {sl13 : Array (Option Value)} {oc13 kV13 dc13 pm13 cd13 ct13 : Value}
    {od14 an14 : Option Addr} {sl14 : Array (Option Value)} {oc14 kV14 dc14 pm14 cd14 ct14 : Value}
    {od15 an15 : Option Addr} {sl15 : Array (Option Value)} {oc15 kV15 dc15 pm15 cd15 ct15 : Value}
    {od16 an16 : Option Addr} {sl16 : Array (Option Value)} {oc16 kV16 dc16 pm16 cd16 ct16 : Value}
    {od17 an17 : Option Addr} {sl17 : Array (Option Value)} {oc17 kV17 dc17 pm17 cd17 ct17 : Value}
    {od18 an18 : Option Addr} {sl18 : Array (Option Value)} {oc18 kV18 dc18 pm18 cd18 ct18 : Value}
    {od19 an19 : Option Addr} {sl19 : Array (Option Value)} {oc19 kV19 dc19 pm19 cd19 ct19 : Value}
    {od20 an20 : Option Addr} {sl20 : Array (Option Value)} {oc20 kV20 dc20 pm20 cd20 ct20 : Value}
    {od21 an21 : Option Addr} {sl21 : Array (Option Value)} {oc21 kV21 dc21 pm21 cd21 ct21 : Value}
    {od22 an22 : Option Addr} {sl22 : Array (Option Value)} {oc22 kV22 dc22 pm22 cd22 ct22 : Value}
    {od23 an23 : Option Addr} {sl23 : Array (Option Value)} {oc23 kV23 dc23 pm23 cd23 ct23 : Value}
    {od24 an24 : Option Addr} {sl24 : Array (Option Value)} {oc24 kV24 dc24 pm24 cd24 ct24 : Value}
    {od25 an25 : Option Addr} {sl25 : Array (Option Value)} {oc25 kV25 dc25 pm25 cd25 ct25 : Value}
    (a0 : PySem.W.nsIn K mainGlobals "_law_source" = some (some (.ref f0))) (l0 : K.lookup f0 = some ⟨oc0, od0, .func (PySem.W.fnOf "_law_source" "_law_source" (defArgs s_law_source) (defBody s_law_source) (defScope s_law_source) .none kV0 dc0 pm0 an0 cd0 ct0), sl0⟩) (c0 : PySem.W.codeIn K cd0 "_law_source" = true) (k0 : PySem.W.keepIn K (.ref f0) = true)
    (a1 : PySem.W.nsIn K mainGlobals "_law_draw" = some (some (.ref f1))) (l1 : K.lookup f1 = some ⟨oc1, od1, .func (PySem.W.fnOf "_law_draw" "_law_draw" (defArgs s_law_draw) (defBody s_law_draw) (defScope s_law_draw) .none kV1 dc1 pm1 an1 cd1 ct1), sl1⟩) (c1 : PySem.W.codeIn K cd1 "_law_draw" = true) (k1 : PySem.W.keepIn K (.ref f1) = true)
    (a2 : PySem.W.nsIn K mainGlobals "_law_mix" = some (some (.ref f2))) (l2 : K.lookup f2 = some ⟨oc2, od2, .func (PySem.W.fnOf "_law_mix" "_law_mix" (defArgs s_law_mix) (defBody s_law_mix) (defScope s_law_mix) .none kV2 dc2 pm2 an2 cd2 ct2), sl2⟩) (c2 : PySem.W.codeIn K cd2 "_law_mix" = true) (k2 : PySem.W.keepIn K (.ref f2) = true)
    (a3 : PySem.W.nsIn K mainGlobals "_law_pool" = some (some (.ref f3))) (l3 : K.lookup f3 = some ⟨oc3, od3, .func (PySem.W.fnOf "_law_pool" "_law_pool" (defArgs s_law_pool) (defBody s_law_pool) (defScope s_law_pool) .none kV3 dc3 pm3 an3 cd3 ct3), sl3⟩) (c3 : PySem.W.codeIn K cd3 "_law_pool" = true) (k3 : PySem.W.keepIn K (.ref f3) = true)
    (a4 : PySem.W.nsIn K mainGlobals "_law_house" = some (some (.ref f4))) (l4 : K.lookup f4 = some ⟨oc4, od4, .func (PySem.W.fnOf "_law_house" "_law_house" (defArgs s_law_house) (defBody s_law_house) (defScope s_law_house) .none kV4 dc4 pm4 an4 cd4 ct4), sl4⟩) (c4 : PySem.W.codeIn K cd4 "_law_house" = true) (k4 : PySem.W.keepIn K (.ref f4) = true)
    (a5 : PySem.W.nsIn K mainGlobals "_law_wide" = some (some (.ref f5))) (l5 : K.lookup f5 = some ⟨oc5, od5, .func (PySem.W.fnOf "_law_wide" "_law_wide" (defArgs s_law_wide) (defBody s_law_wide) (defScope s_law_wide) .none kV5 dc5 pm5 an5 cd5 ct5), sl5⟩) (c5 : PySem.W.codeIn K cd5 "_law_wide" = true) (k5 : PySem.W.keepIn K (.ref f5) = true)
    (a6 : PySem.W.nsIn K mainGlobals "_law_store" = some (some (.ref f6))) (l6 : K.lookup f6 = some ⟨oc6, od6, .func (PySem.W.fnOf "_law_store" "_law_store" (defArgs s_law_store) (defBody s_law_store) (defScope s_law_store) .none kV6 dc6 pm6 an6 cd6 ct6), sl6⟩) (c6 : PySem.W.codeIn K cd6 "_law_store" = true) (k6 : PySem.W.keepIn K (.ref f6) = true)
    (a7 : PySem.W.nsIn K mainGlobals "_law_calls" = some (some (.ref f7))) (l7 : K.lookup f7 = some ⟨oc7, od7, .func (PySem.W.fnOf "_law_calls" "_law_calls" (defArgs s_law_calls) (defBody s_law_calls) (defScope s_law_calls) .none kV7 dc7 pm7 an7 cd7 ct7), sl7⟩) (c7 : PySem.W.codeIn K cd7 "_law_calls" = true) (k7 : PySem.W.keepIn K (.ref f7) = true)
    (a8 : PySem.W.nsIn K mainGlobals "_law_meets" = some (some (.ref f8))) (l8 : K.lookup f8 = some ⟨oc8, od8, .func (PySem.W.fnOf "_law_meets" "_law_meets" (defArgs s_law_meets) (defBody s_law_meets) (defScope s_law_meets) .none kV8 dc8 pm8 an8 cd8 ct8), sl8⟩) (c8 : PySem.W.codeIn K cd8 "_law_meets" = true) (k8 : PySem.W.keepIn K (.ref f8) = true)
    (a9 : PySem.W.nsIn K mainGlobals "_law_width" = some (some (.ref f9))) (l9 : K.lookup f9 = some ⟨oc9, od9, .func (PySem.W.fnOf "_law_width" "_law_width" (defArgs s_law_width) (defBody s_law_width) (defScope s_law_width) .none kV9 dc9 pm9 an9 cd9 ct9), sl9⟩) (c9 : PySem.W.codeIn K cd9 "_law_width" = true) (k9 : PySem.W.keepIn K (.ref f9) = true)
    (a10 : PySem.W.nsIn K mainGlobals "_law_picks" = some (some (.ref f10))) (l10 : K.lookup f10 = some ⟨oc10, od10, .func (PySem.W.fnOf "_law_picks" "_law_picks" (defArgs s_law_picks) (defBody s_law_picks) (defScope s_law_picks) .none kV10 dc10 pm10 an10 cd10 ct10), sl10⟩) (c10 : PySem.W.codeIn K cd10 "_law_picks" = true) (k10 : PySem.W.keepIn K (.ref f10) = true)
    (a11 : PySem.W.nsIn K mainGlobals "_law_due" = some (some (.ref f11))) (l11 : K.lookup f11 = some ⟨oc11, od11, .func (PySem.W.fnOf "_law_due" "_law_due" (defArgs s_law_due) (defBody s_law_due) (defScope s_law_due) .none kV11 dc11 pm11 an11 cd11 ct11), sl11⟩) (c11 : PySem.W.codeIn K cd11 "_law_due" = true) (k11 : PySem.W.keepIn K (.ref f11) = true)
    (a12 : PySem.W.nsIn K mainGlobals "_law_alike" = some (some (.ref f12))) (l12 : K.lookup f12 = some ⟨oc12, od12, .func (PySem.W.fnOf "_law_alike" "_law_alike" (defArgs s_law_alike) (defBody s_law_alike) (defScope s_law_alike) .none kV12 dc12 pm12 an12 cd12 ct12), sl12⟩) (c12 : PySem.W.codeIn K cd12 "_law_alike" = true) (k12 : PySem.W.keepIn K (.ref f12) = true)
    (a13 : PySem.W.nsIn K mainGlobals "_law_same" = some (some (.ref f13))) (l13 : K.lookup f13 = some ⟨oc13, od13, .func (PySem.W.fnOf "_law_same" "_law_same" (defArgs s_law_same) (defBody s_law_same) (defScope s_law_same) .none kV13 dc13 pm13 an13 cd13 ct13), sl13⟩) (c13 : PySem.W.codeIn K cd13 "_law_same" = true) (k13 : PySem.W.keepIn K (.ref f13) = true)
    (a14 : PySem.W.nsIn K mainGlobals "door_of" = some (some (.ref f14))) (l14 : K.lookup f14 = some ⟨oc14, od14, .func (PySem.W.fnOf "door_of" "door_of" (defArgs s_door_of) (defBody s_door_of) (defScope s_door_of) .none kV14 dc14 pm14 an14 cd14 ct14), sl14⟩) (c14 : PySem.W.codeIn K cd14 "door_of" = true) (k14 : PySem.W.keepIn K (.ref f14) = true)
    (a15 : PySem.W.nsIn K mainGlobals "rows_of" = some (some (.ref f15))) (l15 : K.lookup f15 = some ⟨oc15, od15, .func (PySem.W.fnOf "rows_of" "rows_of" (defArgs s_rows_of) (defBody s_rows_of) (defScope s_rows_of) .none kV15 dc15 pm15 an15 cd15 ct15), sl15⟩) (c15 : PySem.W.codeIn K cd15 "rows_of" = true) (k15 : PySem.W.keepIn K (.ref f15) = true)
    (a16 : PySem.W.nsIn K mainGlobals "told_of" = some (some (.ref f16))) (l16 : K.lookup f16 = some ⟨oc16, od16, .func (PySem.W.fnOf "told_of" "told_of" (defArgs s_told_of) (defBody s_told_of) (defScope s_told_of) .none kV16 dc16 pm16 an16 cd16 ct16), sl16⟩) (c16 : PySem.W.codeIn K cd16 "told_of" = true) (k16 : PySem.W.keepIn K (.ref f16) = true)
    (a17 : PySem.W.nsIn K mainGlobals "matched_by" = some (some (.ref f17))) (l17 : K.lookup f17 = some ⟨oc17, od17, .func (PySem.W.fnOf "matched_by" "matched_by" (defArgs s_matched_by) (defBody s_matched_by) (defScope s_matched_by) .none kV17 dc17 pm17 an17 cd17 ct17), sl17⟩) (c17 : PySem.W.codeIn K cd17 "matched_by" = true) (k17 : PySem.W.keepIn K (.ref f17) = true)
    (a18 : PySem.W.nsIn K mainGlobals "picked_row" = some (some (.ref f18))) (l18 : K.lookup f18 = some ⟨oc18, od18, .func (PySem.W.fnOf "picked_row" "picked_row" (defArgs s_picked_row) (defBody s_picked_row) (defScope s_picked_row) .none kV18 dc18 pm18 an18 cd18 ct18), sl18⟩) (c18 : PySem.W.codeIn K cd18 "picked_row" = true) (k18 : PySem.W.keepIn K (.ref f18) = true)
    (a19 : PySem.W.nsIn K mainGlobals "shown_by" = some (some (.ref f19))) (l19 : K.lookup f19 = some ⟨oc19, od19, .func (PySem.W.fnOf "shown_by" "shown_by" (defArgs s_shown_by) (defBody s_shown_by) (defScope s_shown_by) .none kV19 dc19 pm19 an19 cd19 ct19), sl19⟩) (c19 : PySem.W.codeIn K cd19 "shown_by" = true) (k19 : PySem.W.keepIn K (.ref f19) = true)
    (a20 : PySem.W.nsIn K mainGlobals "shows" = some (some (.ref f20))) (l20 : K.lookup f20 = some ⟨oc20, od20, .func (PySem.W.fnOf "shows" "shows" (defArgs s_shows) (defBody s_shows) (defScope s_shows) .none kV20 dc20 pm20 an20 cd20 ct20), sl20⟩) (c20 : PySem.W.codeIn K cd20 "shows" = true) (k20 : PySem.W.keepIn K (.ref f20) = true)
    (a21 : PySem.W.nsIn K mainGlobals "_law_by" = some (some (.ref f21))) (l21 : K.lookup f21 = some ⟨oc21, od21, .func (PySem.W.fnOf "_law_by" "_law_by" (defArgs s_law_by) (defBody s_law_by) (defScope s_law_by) .none kV21 dc21 pm21 an21 cd21 ct21), sl21⟩) (c21 : PySem.W.codeIn K cd21 "_law_by" = true) (k21 : PySem.W.keepIn K (.ref f21) = true)
    (a22 : PySem.W.nsIn K mainGlobals "picks_by" = some (some (.ref f22))) (l22 : K.lookup f22 = some ⟨oc22, od22, .func (PySem.W.fnOf "picks_by" "picks_by" (defArgs s_picks_by) (defBody s_picks_by) (defScope s_picks_by) .none kV22 dc22 pm22 an22 cd22 ct22), sl22⟩) (c22 : PySem.W.codeIn K cd22 "picks_by" = true) (k22 : PySem.W.keepIn K (.ref f22) = true)
    (a23 : PySem.W.nsIn K mainGlobals "_law_asked" = some (some (.ref f23))) (l23 : K.lookup f23 = some ⟨oc23, od23, .func (PySem.W.fnOf "_law_asked" "_law_asked" (defArgs s_law_asked) (defBody s_law_asked) (defScope s_law_asked) .none kV23 dc23 pm23 an23 cd23 ct23), sl23⟩) (c23 : PySem.W.codeIn K cd23 "_law_asked" = true) (k23 : PySem.W.keepIn K (.ref f23) = true)
    (a24 : PySem.W.nsIn K mainGlobals "_law_pool_values" = some (some (.ref f24))) (l24 : K.lookup f24 = some ⟨oc24, od24, .func (PySem.W.fnOf "_law_pool_values" "_law_pool_values" (defArgs s_law_pool_values) (defBody s_law_pool_values) (defScope s_law_pool_values) .none kV24 dc24 pm24 an24 cd24 ct24), sl24⟩) (c24 : PySem.W.codeIn K cd24 "_law_pool_values" = true) (k24 : PySem.W.keepIn K (.ref f24) = true)
    (a25 : PySem.W.nsIn K mainGlobals "law" = some (some (.ref f25))) (l25 : K.lookup f25 = some ⟨oc25, od25, .func (PySem.W.fnOf "law" "law" (defArgs s_law) (defBody s_law) (defScope s_law) .none kV25 dc25 pm25 an25 cd25 ct25), sl25⟩) (c25 : PySem.W.codeIn K cd25 "law" = true) (k25 : PySem.W.keepIn K (.ref f25) = true)
    (z0 : PySem.W.nsIn K mainGlobals "tuple" = some none) (z1 : PySem.W.nsIn K mainGlobals "len" = some none) (z2 : PySem.W.nsIn K mainGlobals "sorted" = some none) (z3 : PySem.W.nsIn K mainGlobals "int" = some none) (z4 : PySem.W.nsIn K mainGlobals "abs" = some none) (z5 : PySem.W.nsIn K mainGlobals "list" = some none) (z6 : PySem.W.nsIn K mainGlobals "range" = some none) (z7 : PySem.W.nsIn K mainGlobals "str" = some none) (z8 : PySem.W.nsIn K mainGlobals "isinstance" = some none) (z9 : PySem.W.nsIn K mainGlobals "bool" = some none)
    : ∃ fd : FuncData, (∀ (s : Shared) (v : Value), BindsTo s fd ⟨[v], []⟩ [("script", v)]) ∧ ∀ base : Heap, K.In base → base.Ns mainGlobals mg → FnOk l.prog w K mg base CX0 6 fa fd ["script"] (spOf K F_law) := by
  have e := hfa.symm.trans (PySem.W.mg_of X G a25)
  cases e
  have t0 : TFun K mg "_law_source" s_law_source ["script"] := tfun_mk (w := w) X G a0 l0 c0 k0 fun _ _ _ _ _ _ us hl => match us, hl with | [_], _ => rfl
  have t1 : TFun K mg "_law_draw" s_law_draw ["source", "many"] := tfun_mk (w := w) X G a1 l1 c1 k1 fun _ _ _ _ _ _ us hl => match us, hl with | [_, _], _ => rfl
  have t2 : TFun K mg "_law_mix" s_law_mix ["source", "things"] := tfun_mk (w := w) X G a2 l2 c2 k2 fun _ _ _ _ _ _ us hl => match us, hl with | [_, _], _ => rfl
  have t3 : TFun K mg "_law_pool" s_law_pool ["source", "many"] := tfun_mk (w := w) X G a3 l3 c3 k3 fun _ _ _ _ _ _ us hl => match us, hl with | [_, _], _ => rfl
  have t4 : TFun K mg "_law_house" s_law_house ["source", "names", "values"] := tfun_mk (w := w) X G a4 l4 c4 k4 fun _ _ _ _ _ _ us hl => match us, hl with | [_, _, _], _ => rfl
  have t5 : TFun K mg "_law_wide" s_law_wide ["source", "house"] := tfun_mk (w := w) X G a5 l5 c5 k5 fun _ _ _ _ _ _ us hl => match us, hl with | [_, _], _ => rfl
  have t6 : TFun K mg "_law_store" s_law_store ["source", "house", "values", "many"] := tfun_mk (w := w) X G a6 l6 c6 k6 fun _ _ _ _ _ _ us hl => match us, hl with | [_, _, _, _], _ => rfl
  have t7 : TFun K mg "_law_calls" s_law_calls ["source", "house", "store", "values", "door"] := tfun_mk (w := w) X G a7 l7 c7 k7 fun _ _ _ _ _ _ us hl => match us, hl with | [_, _, _, _, _], _ => rfl
  have t8 : TFun K mg "_law_meets" s_law_meets ["house", "store", "door", "told"] := tfun_mk (w := w) X G a8 l8 c8 k8 fun _ _ _ _ _ _ us hl => match us, hl with | [_, _, _, _], _ => rfl
  have t9 : TFun K mg "_law_width" s_law_width ["house", "name"] := tfun_mk (w := w) X G a9 l9 c9 k9 fun _ _ _ _ _ _ us hl => match us, hl with | [_, _], _ => rfl
  have t10 : TFun K mg "_law_picks" s_law_picks ["source", "house", "store", "values"] := tfun_mk (w := w) X G a10 l10 c10 k10 fun _ _ _ _ _ _ us hl => match us, hl with | [_, _, _, _], _ => rfl
  have t11 : TFun K mg "_law_due" s_law_due ["house", "store", "picks", "door", "call"] := tfun_mk (w := w) X G a11 l11 c11 k11 fun _ _ _ _ _ _ us hl => match us, hl with | [_, _, _, _, _], _ => rfl
  have t12 : TFun K mg "_law_alike" s_law_alike ["told", "due"] := tfun_mk (w := w) X G a12 l12 c12 k12 fun _ _ _ _ _ _ us hl => match us, hl with | [_, _], _ => rfl
  have t13 : TFun K mg "_law_same" s_law_same ["told", "due"] := tfun_mk (w := w) X G a13 l13 c13 k13 fun _ _ _ _ _ _ us hl => match us, hl with | [_, _], _ => rfl
  have t14 : TFun K mg "door_of" s_door_of ["house", "name"] := tfun_mk (w := w) X G a14 l14 c14 k14 fun _ _ _ _ _ _ us hl => match us, hl with | [_, _], _ => rfl
  have t15 : TFun K mg "rows_of" s_rows_of ["store", "table"] := tfun_mk (w := w) X G a15 l15 c15 k15 fun _ _ _ _ _ _ us hl => match us, hl with | [_, _], _ => rfl
  have t16 : TFun K mg "told_of" s_told_of ["door", "values"] := tfun_mk (w := w) X G a16 l16 c16 k16 fun _ _ _ _ _ _ us hl => match us, hl with | [_, _], _ => rfl
  have t17 : TFun K mg "matched_by" s_matched_by ["store", "door"] := tfun_mk (w := w) X G a17 l17 c17 k17 fun _ _ _ _ _ _ us hl => match us, hl with | [_, _], _ => rfl
  have t18 : TFun K mg "picked_row" s_picked_row ["rows", "row"] := tfun_mk (w := w) X G a18 l18 c18 k18 fun _ _ _ _ _ _ us hl => match us, hl with | [_, _], _ => rfl
  have t19 : TFun K mg "shown_by" s_shown_by ["house", "store", "picks", "name"] := tfun_mk (w := w) X G a19 l19 c19 k19 fun _ _ _ _ _ _ us hl => match us, hl with | [_, _, _, _], _ => rfl
  have t20 : TFun K mg "shows" s_shows ["house", "store", "picks", "door", "values"] := tfun_mk (w := w) X G a20 l20 c20 k20 fun _ _ _ _ _ _ us hl => match us, hl with | [_, _, _, _, _], _ => rfl
  have t21 : TFun K mg "_law_by" s_law_by ["house", "store", "number"] := tfun_mk (w := w) X G a21 l21 c21 k21 fun _ _ _ _ _ _ us hl => match us, hl with | [_, _, _], _ => rfl
  have t22 : TFun K mg "picks_by" s_picks_by ["house", "store", "number"] := tfun_mk (w := w) X G a22 l22 c22 k22 fun _ _ _ _ _ _ us hl => match us, hl with | [_, _, _], _ => rfl
  have t23 : TFun K mg "_law_asked" s_law_asked ["source", "names", "values", "wide"] := tfun_mk (w := w) X G a23 l23 c23 k23 fun _ _ _ _ _ _ us hl => match us, hl with | [_, _, _, _], _ => rfl
  have t24 : TFun K mg "_law_pool_values" s_law_pool_values ["source"] := tfun_mk (w := w) X G a24 l24 c24 k24 fun _ _ _ _ _ _ us hl => match us, hl with | [_], _ => rfl
  have T : Txt mg := ⟨PySem.W.mg_none_of X G z0, PySem.W.mg_none_of X G z1, PySem.W.mg_none_of X G z2, PySem.W.mg_none_of X G z3, PySem.W.mg_none_of X G z4, PySem.W.mg_none_of X G z5, PySem.W.mg_none_of X G z6, PySem.W.mg_none_of X G z7, PySem.W.mg_none_of X G z8, PySem.W.mg_none_of X G z9⟩
  refine ⟨PySem.W.fnOf "law" "law" (defArgs s_law) (defBody s_law) (defScope s_law) .none kV25 dc25 pm25 an25 cd25 ct25, fun s v => .of_eq rfl, fun base _ _ => ?_⟩
  exact ok_all (P := l.prog) (w := w) (base := base) T t0 t1 t2 t3 t4 t5 t6 t7 t8 t9 t10 t11 t12 t13 t14 t15 t16 t17 t18 t19 t20 t21 t22 t23 t24 (fun_mk l25 c25 k25)
theorem repL_of_ints {K : Fg} {H : Hp} {r : List Addr} : ∀ ns : List Int, RepL K r H (ns.map V.int) (ns.map W.int)
  | [] => .nil
  | x :: ns => .cons (.int x) (repL_of_ints ns)
theorem hsp_mk {K : Fg} {H : Hp} {a : Addr} {ns : List Int} (hl : ns.length ≤ 63) (ho : Only H) (hs : SqL K H a (ns.map V.int)) : spOf K F_law [.ref a] H (fun v _ => v = .bl true) fun _ _ _ => False := by
  refine ⟨[], [], [.lit (ns.map W.int)], fun w _ => w = .bl true, ⟨rfl, List.nodup_nil, fun i a o h => by simp at h⟩, .cons (.lit ⟨hs, ?_⟩ ?_) .nil, ⟨ns, rfl, rfl, hl, fun _ => rfl⟩, fun _ _ _ v w _ _ r e => ?_⟩
  · rcases hs with h | ⟨o, its, n, h1, h2, h3, h4, h5, h6⟩
    · rcases h with h | ⟨o, h⟩
      · rcases ho a with h2 | ⟨o, xs, h2⟩
        · rw [h2] at h; cases h
        · rw [h2] at h; cases h
      · exact .inl ⟨o, h⟩
    · exact .inr fun H' => .inr ⟨o, its, n, h1, h2, h3, h4, h5, h6⟩
  · exact repL_of_ints ns
  · subst e
    cases r
    rfl
end K25
open PySem PySem.W PyProof.Rows
set_option maxHeartbeats 0 in
theorem PySem.Challenge.cw_throughdoors_k25_shows_and_picks_by_holds : PySem.Challenge.rw_throughdoors_k25_shows_and_picks_by.Holds := by
  w_on; o_law; k_head; (case hw => w_witness2)
  k_fill
  refine L2.walk_of (l := PySem.Challenge.rw_throughdoors_k25_shows_and_picks_by) (n := 63) (k := 6) (x := "script") (CX := fun _ => L2.CX0) (sp := fun w => DL.spOf _ K25.F_law) rfl (by decide) rfl ⟨rfl, by decide, by decide⟩ (fun w h Y => PySem.W.kIn_of Y) ?F (fun _ _ _ _ hl ho hs => K25.hsp_mk hl ho hs) (fun _ _ _ _ _ h => h)
  case F =>
    intro w mg fa h KX G hmg
    refine' K25.all_mk KX G hmg ?a0 ?l0 ?c0 ?k0 ?a1 ?l1 ?c1 ?k1 ?a2 ?l2 ?c2 ?k2 ?a3 ?l3 ?c3 ?k3 ?a4 ?l4 ?c4 ?k4 ?a5 ?l5 ?c5 ?k5 ?a6 ?l6 ?c6 ?k6 ?a7 ?l7 ?c7 ?k7 ?a8 ?l8 ?c8 ?k8 ?a9 ?l9 ?c9 ?k9 ?a10 ?l10 ?c10 ?k10 ?a11 ?l11 ?c11 ?k11 ?a12 ?l12 ?c12 ?k12 ?a13 ?l13 ?c13 ?k13 ?a14 ?l14 ?c14 ?k14 ?a15 ?l15 ?c15 ?k15 ?a16 ?l16 ?c16 ?k16 ?a17 ?l17 ?c17 ?k17 ?a18 ?l18 ?c18 ?k18 ?a19 ?l19 ?c19 ?k19 ?a20 ?l20 ?c20 ?k20 ?a21 ?l21 ?c21 ?k21 ?a22 ?l22 ?c22 ?k22 ?a23 ?l23 ?c23 ?k23 ?a24 ?l24 ?c24 ?k24 ?a25 ?l25 ?c25 ?k25 ?z0 ?z1 ?z2 ?z3 ?z4 ?z5 ?z6 ?z7 ?z8 ?z9
    (case a0 => k_is)
    (case l0 => k_is)
    (case c0 => k_is)
    (case k0 => k_is)
    (case a1 => k_is)
    (case l1 => k_is)
    (case c1 => k_is)
    (case k1 => k_is)
    (case a2 => k_is)
    (case l2 => k_is)
    (case c2 => k_is)
    (case k2 => k_is)
    (case a3 => k_is)
    (case l3 => k_is)
    (case c3 => k_is)
    (case k3 => k_is)
    (case a4 => k_is)
    (case l4 => k_is)
    (case c4 => k_is)
    (case k4 => k_is)
    (case a5 => k_is)
    (case l5 => k_is)
    (case c5 => k_is)
    (case k5 => k_is)
    (case a6 => k_is)
    (case l6 => k_is)
    (case c6 => k_is)
    (case k6 => k_is)
    (case a7 => k_is)
    (case l7 => k_is)
    (case c7 => k_is)
    (case k7 => k_is)
    (case a8 => k_is)
    (case l8 => k_is)
    (case c8 => k_is)
    (case k8 => k_is)
    (case a9 => k_is)
    (case l9 => k_is)
    (case c9 => k_is)
    (case k9 => k_is)
    (case a10 => k_is)
    (case l10 => k_is)
    (case c10 => k_is)
    (case k10 => k_is)
    (case a11 => k_is)
    (case l11 => k_is)
    (case c11 => k_is)
    (case k11 => k_is)
    (case a12 => k_is)
    (case l12 => k_is)
    (case c12 => k_is)
    (case k12 => k_is)
    (case a13 => k_is)
    (case l13 => k_is)
    (case c13 => k_is)
    (case k13 => k_is)
    (case a14 => k_is)
    (case l14 => k_is)
    (case c14 => k_is)
    (case k14 => k_is)
    (case a15 => k_is)
    (case l15 => k_is)
    (case c15 => k_is)
    (case k15 => k_is)
    (case a16 => k_is)
    (case l16 => k_is)
    (case c16 => k_is)
    (case k16 => k_is)
    (case a17 => k_is)
    (case l17 => k_is)
    (case c17 => k_is)
    (case k17 => k_is)
    (case a18 => k_is)
    (case l18 => k_is)
    (case c18 => k_is)
    (case k18 => k_is)
    (case a19 => k_is)
    (case l19 => k_is)
    (case c19 => k_is)
    (case k19 => k_is)
    (case a20 => k_is)
    (case l20 => k_is)
    (case c20 => k_is)
    (case k20 => k_is)
    (case a21 => k_is)
    (case l21 => k_is)
    (case c21 => k_is)
    (case k21 => k_is)
    (case a22 => k_is)
    (case l22 => k_is)
    (case c22 => k_is)
    (case k22 => k_is)
    (case a23 => k_is)
    (case l23 => k_is)
    (case c23 => k_is)
    (case k23 => k_is)
    (case a24 => k_is)
    (case l24 => k_is)
    (case c24 => k_is)
    (case k24 => k_is)
    (case a25 => k_is)
    (case l25 => k_is)
    (case c25 => k_is)
    (case k25 => k_is)
    (case z0 => k_is)
    (case z1 => k_is)
    (case z2 => k_is)
    (case z3 => k_is)
    (case z4 => k_is)
    (case z5 => k_is)
    (case z6 => k_is)
    (case z7 => k_is)
    (case z8 => k_is)
    (case z9 => k_is)
