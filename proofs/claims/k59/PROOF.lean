import PyProof.Rows.All
import Wide.All
import OpenK.AllK
import Wide.FinOn
import HandS.ForMost
import HandS.TupAny
import HandS.TupMul
import HandS.Zip
import HandS.Walk
import HandS.Wide
import HandS.Conv
import HandS.Deep
import HandS.IsInst
import HandS.Flow
import KE.KDictKeyed
import KE.GoesMore
import KE.GoesZip
import KE.GoesEnum
import HandS.SortInts
import HandS.WordsList
import HandS.SetFor
import HandS.Strs
import PySem.Challenge.RW_knotsinrows_k59_whole_rings_far_on
section
set_option Elab.async false
set_option linter.all false
set_option maxRecDepth 100000
set_option maxHeartbeats 4000000
namespace TL
open PySem PySem.Spec PyProof.Rows L2

/-! ### data: tuples by value, all else that changes by its address -/
inductive D where
  | non | bl (b : Bool) | int (i : Int) | str (x : Str) | tup (ds : List D) | ref (a : Addr) | scr (ns : List Int)
instance : Inhabited D := ⟨.non⟩
namespace D
mutual
def beq : D → D → Bool
  | .non, e => match e with | .non => true | _ => false
  | .bl a, e => match e with | .bl b => decide (a = b) | _ => false
  | .int a, e => match e with | .int b => decide (a = b) | _ => false
  | .str a, e => match e with | .str b => decide (a = b) | _ => false
  | .ref a, e => match e with | .ref b => decide (a = b) | _ => false
  | .scr a, e => match e with | .scr b => decide (a = b) | _ => false
  | .tup a, e => match e with | .tup b => beqAll a b | _ => false
def beqAll : List D → List D → Bool
  | [], e => match e with | [] => true | _ => false
  | a :: as, e => match e with | b :: bs => beq a b && beqAll as bs | [] => false
end
mutual
theorem beq_self : ∀ a : D, beq a a = true
  | .non => rfl
  | .bl a => by simp [beq]
  | .int a => by simp [beq]
  | .str a => by simp [beq]
  | .ref a => by simp [beq]
  | .scr a => by simp [beq]
  | .tup a => by rw [beq]; exact beqAll_self a
theorem beqAll_self : ∀ a : List D, beqAll a a = true
  | [] => rfl
  | a :: as => by rw [beqAll, beq_self a, beqAll_self as]; rfl
end
mutual
theorem eq_of_beq : ∀ a b : D, beq a b = true → a = b
  | .non, b, h => by cases b <;> simp_all [beq]
  | .bl a, b, h => by cases b <;> simp_all [beq]
  | .int a, b, h => by cases b <;> simp_all [beq]
  | .str a, b, h => by cases b <;> simp_all [beq]
  | .ref a, b, h => by cases b <;> simp_all [beq]
  | .scr a, b, h => by cases b <;> simp_all [beq]
  | .tup a, b, h => by
    cases b with
    | tup b => rw [beq] at h; rw [eq_of_beqAll a b h]
    | _ => simp [beq] at h
theorem eq_of_beqAll : ∀ a b : List D, beqAll a b = true → a = b
  | [], b, h => by cases b <;> simp_all [beqAll]
  | a :: as, b, h => by
    cases b with
    | nil => simp [beqAll] at h
    | cons b bs =>
      rw [beqAll, Bool.and_eq_true] at h
      rw [eq_of_beq a b h.1, eq_of_beqAll as bs h.2]
end
instance : DecidableEq D := fun a b => if h : beq a b = true then .isTrue (eq_of_beq a b h) else .isFalse fun e => h (e ▸ beq_self a)
mutual
/-- as the library's data -/
def py : D → PyData
  | .non => .none
  | .bl b => .bool b
  | .int i => .int i
  | .str x => .str x
  | .ref _ => .none
  | .scr _ => .none
  | .tup ds => .tuple (pys ds)
def pys : List D → List PyData
  | [] => []
  | d :: ds => py d :: pys ds
end
mutual
/-- no reference within, texts that can be -/
def flat : D → Bool
  | .ref _ => false
  | .scr _ => false
  | .str x => PyData.strOk x
  | .tup ds => flats ds
  | _ => true
def flats : List D → Bool
  | [] => true
  | d :: ds => flat d && flats ds
end
mutual
/-- no reference and no bool within -/
def keyok : D → Bool
  | .ref _ => false
  | .scr _ => false
  | .bl _ => false
  | .tup ds => keyoks ds
  | _ => true
def keyoks : List D → Bool
  | [] => true
  | d :: ds => keyok d && keyoks ds
end
mutual
def dep : D → Nat
  | .tup ds => deps ds + 1
  | _ => 0
def deps : List D → Nat
  | [] => 0
  | d :: ds => max (dep d) (deps ds)
end
mutual
/-- == -/
def eqv : D → D → Bool
  | .non, e => match e with | .non => true | _ => false
  | .bl a, e => match e with | .bl b => a == b | .int j => (if a then 1 else 0) == j | _ => false
  | .int i, e => match e with | .int j => i == j | .bl b => i == (if b then 1 else 0) | _ => false
  | .str a, e => match e with | .str b => decide (a = b) | _ => false
  | .ref _, _ => false
  | .scr _, _ => false
  | .tup a, e => match e with | .tup b => eqvs a b | _ => false
def eqvs : List D → List D → Bool
  | [], e => match e with | [] => true | _ => false
  | a :: as, e => match e with | b :: bs => eqv a b && eqvs as bs | [] => false
end
end D
namespace D
mutual
theorem eqv_py : ∀ a b : D, a.flat = true → b.flat = true → PyData.eqv (py a) (py b) = eqv a b
  | .non, b, _, hb => by cases b <;> simp_all [py, eqv, PyData.eqv, flat]
  | .bl a, b, _, hb => by cases b <;> simp_all [py, eqv, PyData.eqv, flat]
  | .int a, b, _, hb => by cases b <;> simp_all [py, eqv, PyData.eqv, flat]
  | .str a, b, _, hb => by
    cases b with
    | str b => simp only [py, eqv, PyData.eqv]; rw [Bool.beq_eq_decide_eq]
    | _ => simp_all [py, eqv, PyData.eqv, flat]
  | .ref a, b, h, _ => by simp [flat] at h
  | .scr a, b, h, _ => by simp [flat] at h
  | .tup a, b, ha, hb => by
    cases b with
    | tup b => simp only [py, eqv, PyData.eqv]; exact eqvs_py a b ha hb
    | _ => simp_all [py, eqv, PyData.eqv, flat]
theorem eqvs_py : ∀ a b : List D, flats a = true → flats b = true → PyData.eqvAll (pys a) (pys b) = eqvs a b
  | [], b, _, hb => by cases b <;> simp_all [pys, eqvs, PyData.eqvAll]
  | a :: as, b, ha, hb => by
    cases b with
    | nil => simp [pys, eqvs, PyData.eqvAll]
    | cons b bs =>
      rw [flats, Bool.and_eq_true] at ha hb
      simp only [pys, eqvs, PyData.eqvAll]
      rw [eqv_py a b ha.1 hb.1, eqvs_py as bs ha.2 hb.2]
end
mutual
theorem eqv_dec : ∀ a b : D, a.keyok = true → b.keyok = true → eqv a b = decide (a = b)
  | .non, b, _, hb => by cases b <;> simp_all [eqv, keyok]
  | .bl a, b, h, _ => by simp [keyok] at h
  | .int a, b, _, hb => by
    cases b with
    | int b => rw [eqv]; by_cases e : a = b <;> simp [e]
    | _ => simp_all [eqv, keyok]
  | .str a, b, _, hb => by cases b <;> simp_all [eqv, keyok]
  | .ref a, b, h, _ => by simp [keyok] at h
  | .scr a, b, h, _ => by simp [keyok] at h
  | .tup a, b, ha, hb => by
    cases b with
    | tup b =>
      have h := eqvs_dec a b ha hb
      rw [eqv, h]
      by_cases e : a = b
      · subst e; simp
      · have : ¬ (D.tup a = D.tup b) := fun q => e (D.tup.inj q)
        simp [e]
    | _ => simp_all [eqv, keyok]
theorem eqvs_dec : ∀ a b : List D, keyoks a = true → keyoks b = true → eqvs a b = decide (a = b)
  | [], b, _, hb => by cases b <;> simp_all [eqvs]
  | a :: as, b, ha, hb => by
    cases b with
    | nil => simp [eqvs]
    | cons b bs =>
      rw [keyoks, Bool.and_eq_true] at ha hb
      rw [eqvs, eqv_dec a b ha.1 hb.1, eqvs_dec as bs ha.2 hb.2]
      by_cases e : a = b <;> by_cases e2 : as = bs <;> simp [e, e2]
end
end D

/-! ### what stays: tuples -/
structure Stay (H H' : Hp) : Prop where
  tup : ∀ a xs, H a = some (.tup xs) → H' a = some (.tup xs)
  frz : ∀ a o u, H a = some (.frz o u) → H' a = some (.frz o u)
theorem Stay.refl (H : Hp) : Stay H H := ⟨fun _ _ h => h, fun _ _ _ h => h⟩
theorem Stay.trans {H H1 H2 : Hp} (a : Stay H H1) (b : Stay H1 H2) : Stay H H2 := ⟨fun c xs h => b.tup c xs (a.tup c xs h), fun c o u h => b.frz c o u (a.frz c o u h)⟩
theorem Stay.new {H : Hp} {p : Addr} {o : HO} (h : H p = none) : Stay H (upd H p o) :=
  ⟨fun c xs e => by rw [upd_ne (ne_of_none e h)]; exact e, fun c u v e => by rw [upd_ne (ne_of_none e h)]; exact e⟩
theorem Stay.put {H : Hp} {p : Addr} {o u : HO} (h : H p = some o) (n1 : ∀ xs, o ≠ .tup xs) (n2 : ∀ a b, o ≠ .frz a b) : Stay H (upd H p u) :=
  ⟨fun c xs e => by
    by_cases q : c = p
    · subst q; rw [h] at e; exact absurd (Option.some.inj e) (n1 xs)
    · rw [upd_ne q]; exact e,
   fun c x y e => by
    by_cases q : c = p
    · subst q; rw [h] at e; exact absurd (Option.some.inj e) (n2 x y)
    · rw [upd_ne q]; exact e⟩
theorem Stay.sqT {K : PySem.W.Frag} {H H' : Hp} (s : Stay H H') {a : Addr} {xs : List V} (h : SqT K H a xs) : SqT K H' a xs := by
  rcases h with (h | ⟨o, h⟩) | h
  · exact .inl (.inl (s.tup _ _ h))
  · exact .inl (.inr ⟨o, s.frz _ _ _ h⟩)
  · exact .inr h

/-- a list that stays as it is -/
def RoI (K : PySem.W.Frag) (H : Hp) (a : Addr) (xs : List V) : Prop := (∃ o, H a = some (.frz o (.lst xs))) ∨
  ∃ (o : Obj) (its : Array Value) (n : Nat), K.lookup a = some o ∧ o.cls = .type "list" ∧ o.dict = none ∧ o.data = .seq its n ∧ its.size ≤ sizeLine ∧ Vals xs its.toList
theorem RoI.sqL {K : PySem.W.Frag} {H : Hp} {a : Addr} {xs : List V} (h : RoI K H a xs) : SqL K H a xs := by
  rcases h with ⟨o, h⟩ | h
  · exact .inl (.inr ⟨o, h⟩)
  · exact .inr h
theorem Stay.roI {K : PySem.W.Frag} {H H' : Hp} (s : Stay H H') {a : Addr} {xs : List V} (h : RoI K H a xs) : RoI K H' a xs := by
  rcases h with ⟨o, h⟩ | h
  · exact .inl ⟨o, s.frz _ _ _ h⟩
  · exact .inr h
mutual
/-- the value is the data -/
def IsD (K : PySem.W.Frag) (H : Hp) : D → V → Prop
  | .non, v => v = .non
  | .bl b, v => v = .bl b
  | .int i, v => v = .int i
  | .str x, v => v = .str x
  | .ref a, v => v = .ref a
  | .scr ns, v => ∃ a, v = .ref a ∧ RoI K H a (ns.map V.int)
  | .tup ds, v => ∃ a xs, v = .ref a ∧ SqT K H a xs ∧ IsDs K H ds xs
def IsDs (K : PySem.W.Frag) (H : Hp) : List D → List V → Prop
  | [], vs => vs = []
  | d :: ds, vs => ∃ v r, vs = v :: r ∧ IsD K H d v ∧ IsDs K H ds r
end
section
variable {K : PySem.W.Frag} {H H' : Hp}
mutual
theorem IsD.stay (s : Stay H H') : ∀ {d : D} {v : V}, IsD K H d v → IsD K H' d v
  | .non, _, h => h
  | .bl _, _, h => h
  | .int _, _, h => h
  | .str _, _, h => h
  | .ref _, _, h => h
  | .scr ns, _, h => by
    obtain ⟨a, e, q⟩ := h
    exact ⟨a, e, s.roI q⟩
  | .tup ds, _, h => by
    obtain ⟨a, xs, e, q, r⟩ := h
    exact ⟨a, xs, e, s.sqT q, IsDs.stay s r⟩
theorem IsDs.stay (s : Stay H H') : ∀ {ds : List D} {vs : List V}, IsDs K H ds vs → IsDs K H' ds vs
  | [], _, h => h
  | d :: ds, _, h => by
    obtain ⟨v, r, e, q, t⟩ := h
    exact ⟨v, r, e, IsD.stay s q, IsDs.stay s t⟩
end
theorem IsDs.length : ∀ {ds : List D} {vs : List V}, IsDs K H ds vs → vs.length = ds.length
  | [], _, h => by rw [show _ = [] from h]; rfl
  | d :: ds, _, h => by
    obtain ⟨v, r, e, _, t⟩ := h
    rw [e, List.length_cons, List.length_cons, IsDs.length t]
theorem IsDs.get : ∀ {ds : List D} {vs : List V} {i : Nat} {d : D}, IsDs K H ds vs → ds[i]? = some d → ∃ v, vs[i]? = some v ∧ IsD K H d v
  | [], _, _, _, _, e => by simp at e
  | d :: ds, _, 0, d', h, e => by
    obtain ⟨v, r, rfl, q, _⟩ := h
    simp at e; subst e
    exact ⟨v, rfl, q⟩
  | d :: ds, _, i + 1, d', h, e => by
    obtain ⟨v, r, rfl, _, t⟩ := h
    obtain ⟨u, h1, h2⟩ := IsDs.get (i := i) t e
    exact ⟨u, h1, h2⟩
theorem IsDs.getV : ∀ {ds : List D} {vs : List V} {i : Nat} {v : V}, IsDs K H ds vs → vs[i]? = some v → ∃ d, ds[i]? = some d ∧ IsD K H d v := fun {ds vs i v} h e => by
  have hl := h.length
  have hi : i < ds.length := by rw [← hl]; exact (List.getElem?_eq_some_iff.mp e).1
  obtain ⟨u, h1, h2⟩ := h.get (List.getElem?_eq_getElem hi)
  rw [e] at h1; cases h1
  exact ⟨ds[i], List.getElem?_eq_getElem hi, h2⟩
theorem IsDs.append : ∀ {ds es : List D} {vs us : List V}, IsDs K H ds vs → IsDs K H es us → IsDs K H (ds ++ es) (vs ++ us)
  | [], _, _, _, h, t => by rw [show _ = [] from h]; exact t
  | d :: ds, _, _, _, h, t => by
    obtain ⟨v, r, rfl, q, s⟩ := h
    exact ⟨v, _, rfl, q, IsDs.append s t⟩
theorem IsDs.take : ∀ {ds : List D} {vs : List V} (n : Nat), IsDs K H ds vs → IsDs K H (ds.take n) (vs.take n)
  | _, _, 0, _ => rfl
  | [], _, n + 1, h => by rw [show _ = [] from h]; rfl
  | d :: ds, _, n + 1, h => by
    obtain ⟨v, r, rfl, q, s⟩ := h
    exact ⟨v, _, rfl, q, IsDs.take n s⟩
theorem IsDs.drop : ∀ {ds : List D} {vs : List V} (n : Nat), IsDs K H ds vs → IsDs K H (ds.drop n) (vs.drop n)
  | _, _, 0, h => h
  | [], _, n + 1, h => by rw [show _ = [] from h]; rfl
  | d :: ds, _, n + 1, h => by
    obtain ⟨v, r, rfl, q, s⟩ := h
    exact IsDs.drop n s
theorem IsDs.set : ∀ {ds : List D} {vs : List V} (i : Nat) {d : D} {v : V}, IsDs K H ds vs → IsD K H d v → IsDs K H (ds.set i d) (vs.set i v)
  | [], _, _, _, _, h, _ => by rw [show _ = [] from h]; rfl
  | d :: ds, _, 0, _, _, h, q => by
    obtain ⟨v, r, rfl, _, s⟩ := h
    exact ⟨_, _, rfl, q, s⟩
  | d :: ds, _, i + 1, _, _, h, q => by
    obtain ⟨v, r, rfl, p, s⟩ := h
    exact ⟨v, _, rfl, p, IsDs.set i s q⟩
theorem IsDs.eraseIdx : ∀ {ds : List D} {vs : List V} (i : Nat), IsDs K H ds vs → IsDs K H (ds.eraseIdx i) (vs.eraseIdx i)
  | [], _, _, h => by rw [show _ = [] from h]; rfl
  | d :: ds, _, 0, h => by
    obtain ⟨v, r, rfl, _, s⟩ := h
    exact s
  | d :: ds, _, i + 1, h => by
    obtain ⟨v, r, rfl, p, s⟩ := h
    exact ⟨v, _, rfl, p, IsDs.eraseIdx i s⟩
theorem IsDs.ints : ∀ {ns : List Int} {vs : List V}, IsDs K H (ns.map D.int) vs → vs = ns.map V.int
  | [], _, h => h
  | n :: ns, _, h => by
    obtain ⟨v, r, rfl, p, s⟩ := h
    rw [show v = .int n from p, IsDs.ints s]; rfl
theorem IsDs.of_ints : ∀ {ns : List Int}, IsDs K H (ns.map D.int) (ns.map V.int)
  | [] => rfl
  | n :: ns => ⟨_, _, rfl, rfl, IsDs.of_ints⟩
theorem IsDs.bls : ∀ {ns : List Bool} {vs : List V}, IsDs K H (ns.map D.bl) vs → vs = ns.map V.bl
  | [], _, h => h
  | n :: ns, _, h => by
    obtain ⟨v, r, rfl, p, s⟩ := h
    rw [show v = .bl n from p, IsDs.bls s]; rfl
mutual
theorem IsD.dp : ∀ {d : D} {v : V}, IsD K H d v → d.flat = true → Dp K H v d.py
  | .non, _, h, _ => by rw [show _ = V.non from h]; exact .non
  | .bl b, _, h, _ => by rw [show _ = V.bl b from h]; exact .bl b
  | .int b, _, h, _ => by rw [show _ = V.int b from h]; exact .int b
  | .str b, _, h, _ => by rw [show _ = V.str b from h]; exact .str b
  | .ref b, _, _, f => by simp [D.flat] at f
  | .scr b, _, _, f => by simp [D.flat] at f
  | .tup ds, _, h, f => by
    obtain ⟨a, xs, rfl, q, r⟩ := h
    exact .tup q (IsDs.dp r f)
theorem IsDs.dp : ∀ {ds : List D} {vs : List V}, IsDs K H ds vs → D.flats ds = true → DpAll K H vs (D.pys ds)
  | [], _, h, _ => by rw [show _ = [] from h]; exact .nil
  | d :: ds, _, h, f => by
    obtain ⟨v, r, rfl, p, s⟩ := h
    rw [D.flats, Bool.and_eq_true] at f
    exact .cons (IsD.dp p f.1) (IsDs.dp s f.2)
end
end
namespace D
mutual
theorem shaped_py : ∀ d : D, d.flat = true → d.py.canLay0 = true ∧ d.py.depth = d.dep
  | .non, _ => ⟨rfl, rfl⟩
  | .bl _, _ => ⟨rfl, rfl⟩
  | .int _, _ => ⟨rfl, rfl⟩
  | .str x, h => ⟨h, rfl⟩
  | .ref _, h => by simp [flat] at h
  | .scr _, h => by simp [flat] at h
  | .tup ds, h => by
    obtain ⟨a, b⟩ := shaped_pys ds h
    exact ⟨a, by simp only [py, PyData.depth, dep, b]⟩
theorem shaped_pys : ∀ ds : List D, flats ds = true → PyData.canLayAll0 (pys ds) = true ∧ PyData.depthAll (pys ds) = deps ds
  | [], _ => ⟨rfl, rfl⟩
  | d :: ds, h => by
    rw [flats, Bool.and_eq_true] at h
    obtain ⟨a, b⟩ := shaped_py d h.1
    obtain ⟨c, e⟩ := shaped_pys ds h.2
    exact ⟨by simp only [pys, PyData.canLayAll0, a, c, Bool.and_self], by simp only [pys, PyData.depthAll, deps, b, e]⟩
end
theorem shaped_of {d : D} (h : d.flat = true) (h2 : d.dep ≤ 64) : SeqAt.shaped d.py = true := by
  obtain ⟨a, b⟩ := shaped_py d h
  unfold SeqAt.shaped
  rw [a, b]
  simpa using h2
end D
end TL
end
section
set_option Elab.async false
set_option linter.all false
set_option maxRecDepth 100000
set_option maxHeartbeats 4000000
namespace TL
open PySem PySem.Spec PyProof.Rows L2

/-! ### objects -/
inductive O where
  | lst (ds : List D) | dct (kvs : List (D × D)) | tct (kvs : List (D × D)) | ins (C : Addr) (fs : List (Str × D))
abbrev Gp := Addr → Option O
def gup (G : Gp) (a : Addr) (o : O) : Gp := fun b => if b = a then some o else G b
theorem gup_same {G : Gp} {a : Addr} {o : O} : gup G a o a = some o := by unfold gup; rw [if_pos rfl]
theorem gup_ne {G : Gp} {a b : Addr} {o : O} (h : b ≠ a) : gup G a o b = G b := by unfold gup; rw [if_neg h]
theorem gup_gup {G : Gp} {a : Addr} {o u : O} : gup (gup G a o) a u = gup G a u := by funext b; unfold gup; split <;> rfl
theorem gne_of {G : Gp} {a b : Addr} {o u : O} (h : G a = some o) (h' : G b = some u) (d : o ≠ u) : a ≠ b := by
  intro e; subst e; rw [h] at h'; exact d (Option.some.inj h')
theorem gne_none {G : Gp} {a b : Addr} {o : O} (h : G a = some o) (h' : G b = none) : a ≠ b := by
  intro e; subst e; rw [h] at h'; cases h'

def keyD : Key → D
  | .inl i => .int i
  | .inr x => .str x
namespace D
mutual
def nk : D → NestedKey
  | .non => .none
  | .bl b => .num (if b then 1 else 0)
  | .int i => .num i
  | .str x => .text x
  | .ref _ => .none
  | .scr _ => .none
  | .tup ds => .tup (nks ds)
def nks : List D → List NestedKey
  | [] => []
  | d :: ds => nk d :: nks ds
end
mutual
theorem nk_inj : ∀ a b : D, a.keyok = true → b.keyok = true → nk a = nk b → a = b
  | .non, b, _, hb, e => by cases b <;> simp_all [nk, keyok]
  | .bl _, b, h, _, _ => by simp [keyok] at h
  | .int _, b, _, hb, e => by cases b <;> simp_all [nk, keyok]
  | .str _, b, _, hb, e => by cases b <;> simp_all [nk, keyok]
  | .ref _, b, h, _, _ => by simp [keyok] at h
  | .scr _, b, h, _, _ => by simp [keyok] at h
  | .tup a, b, ha, hb, e => by
    cases b with
    | tup b => simp only [nk, NestedKey.tup.injEq] at e; rw [nks_inj a b ha hb e]
    | _ => simp_all [nk, keyok]
theorem nks_inj : ∀ a b : List D, keyoks a = true → keyoks b = true → nks a = nks b → a = b
  | [], b, _, _, e => by cases b <;> simp_all [nks]
  | a :: as, b, ha, hb, e => by
    cases b with
    | nil => simp [nks] at e
    | cons b bs =>
      rw [keyoks, Bool.and_eq_true] at ha hb
      simp only [nks, List.cons.injEq] at e
      rw [nk_inj a b ha.1 hb.1 e.1, nks_inj as bs ha.2 hb.2 e.2]
end
mutual
theorem nk_dep : ∀ a : D, (nk a).depth = a.dep
  | .non => rfl
  | .bl _ => rfl
  | .int _ => rfl
  | .str _ => rfl
  | .ref _ => rfl
  | .scr _ => rfl
  | .tup a => by simp only [nk, NestedKey.depth, dep, nks_dep a]
theorem nks_dep : ∀ a : List D, NestedKey.depthAll (nks a) = deps a
  | [] => rfl
  | a :: as => by simp only [nks, NestedKey.depthAll, deps, nk_dep a, nks_dep as]
end
def isTup : D → Bool
  | .tup _ => true
  | _ => false
/-- a tuple that can be a key -/
def tkey (d : D) : Bool := d.isTup && d.keyok && decide (d.dep ≤ 8)
/-- a key that is no tuple -/
def lkey : D → Bool
  | .int _ => true
  | .str _ => true
  | _ => false
end D

section
variable (P : Program) (w : World) (K : PySem.W.Frag) (H : Hp)
def LeafAt (a : Addr) (kvs : List (D × D)) : Prop := ∃ ls : List (Key × V), H a = some (.dK ls) ∧ Paired (fun p (q : D × D) => q.1 = keyD p.1 ∧ IsD K H q.2 p.2) ls kvs
/-- the entry x tells k, v -/
def Ent (x : NestedKey × Addr × Value) (q : D × D) : Prop := q.1.tkey = true ∧ x.1 = q.1.nk ∧ IsD K H q.1 (.ref x.2.1) ∧ ∃ v, RelV v x.2.2 ∧ IsD K H q.2 v
def TupAt (a : Addr) (kvs : List (D × D)) : Prop := ∃ (o : Obj) (es : Array DictEntry) (ep : Nat) (xs : List (NestedKey × Addr × Value)),
  H a = some (.ext fun h => h.get? a = some o) ∧ o.ExactDict ∧ o.data = .dict es ep ∧ (a == sysModules) = false ∧ es.toList = xs.map (entryOfKey (nestedKind P w)) ∧ (xs.map (·.1)).Nodup ∧ Paired (Ent K H) xs kvs ∧ kvs.length ≤ sizeLine
def IsO (a : Addr) : O → Prop
  | .lst ds => ∃ xs, H a = some (.lst xs) ∧ IsDs K H ds xs
  | .dct kvs => LeafAt K H a kvs
  | .tct kvs => TupAt P w K H a kvs
  | .ins C fs => ∃ dx gs, H a = some (.ins C dx gs) ∧ gs.map (·.1) = fs.map (·.1) ∧ IsDs K H (fs.map (·.2)) (gs.map (·.2))
def RG (G : Gp) : Prop := ∀ a o, G a = some o → IsO P w K H a o
end
abbrev Sd := List (Option D)
/-- the slot i -/
def sl : Sd → Nat → Option D
  | [], _ => none
  | x :: _, 0 => x
  | _ :: r, n + 1 => sl r n
def put : Sd → Nat → D → Sd
  | [], _, _ => []
  | _ :: r, 0, d => some d :: r
  | x :: r, n + 1, d => x :: put r n d
/-- the slots told by data -/
def RV (K : PySem.W.Frag) (H : Hp) : Sd → L2.St → Prop
  | [], σ => σ = []
  | x :: r, σ => ∃ y t, σ = y :: t ∧ (∀ d, x = some d → ∃ v, y = some v ∧ IsD K H d v) ∧ RV K H r t
section
variable {K : PySem.W.Frag} {H H' : Hp}
theorem RV.stay (s : Stay H H') : ∀ {ρ : Sd} {σ : L2.St}, RV K H ρ σ → RV K H' ρ σ
  | [], _, h => h
  | x :: r, _, h => by
    obtain ⟨y, t, e, q, z⟩ := h
    exact ⟨y, t, e, fun d hd => let ⟨v, a, b⟩ := q d hd; ⟨v, a, b.stay s⟩, RV.stay s z⟩
theorem RV.get : ∀ {ρ : Sd} {σ : L2.St} {i : Nat} {d : D}, RV K H ρ σ → sl ρ i = some d → ∃ v, σ[i]? = some (some v) ∧ IsD K H d v
  | [], _, _, _, _, e => by simp [sl] at e
  | x :: r, _, 0, d, h, e => by
    obtain ⟨y, t, rfl, q, z⟩ := h
    obtain ⟨v, a, b⟩ := q d e
    exact ⟨v, by rw [a]; rfl, b⟩
  | x :: r, _, i + 1, d, h, e => by
    obtain ⟨y, t, rfl, q, z⟩ := h
    exact RV.get (i := i) z e
theorem RV.set : ∀ {ρ : Sd} {σ : L2.St} (i : Nat) {d : D} {v : V}, RV K H ρ σ → IsD K H d v → RV K H (put ρ i d) (σ.set i (some v))
  | [], _, _, _, _, h, _ => by rw [show _ = [] from h]; rfl
  | x :: r, _, 0, d, v, h, q => by
    obtain ⟨y, t, rfl, _, z⟩ := h
    exact ⟨_, _, rfl, fun d' e => ⟨v, rfl, by cases e; exact q⟩, z⟩
  | x :: r, _, i + 1, d, v, h, q => by
    obtain ⟨y, t, rfl, p, z⟩ := h
    exact ⟨_, _, rfl, p, RV.set i z q⟩
end
/-- what a context is to the data: the program, the world, the written part -/
structure Cq where
  prog : Program
  w : World
  K : PySem.W.Frag
abbrev qc (X : Cx) : Cq := ⟨X.prog, X.w, X.K⟩
structure Rel (X : Cq) (ρ : Sd) (G : Gp) (σ : L2.St) (H : Hp) : Prop where
  rv : RV X.K H ρ σ
  rg : RG X.prog X.w X.K H G
theorem Rel.to {X : Cq} {ρ : Sd} {G G1 : Gp} {σ : L2.St} {H H1 : Hp} (r : Rel X ρ G σ H) (s : Stay H H1) (g : RG X.prog X.w X.K H1 G1) : Rel X ρ G1 σ H1 := ⟨r.rv.stay s, g⟩

/-! ### heaps -/
section
variable {P : Program} {w : World} {K : PySem.W.Frag} {H H' : Hp} {G : Gp} {p : Addr}
theorem pair_mono {α β : Type} {F F' : α → β → Prop} {xs : List α} {ys : List β} (h : Paired F xs ys) (f : ∀ a b, F a b → F' a b) : Paired F' xs ys := Paired.mapP h f
theorem Ent.stay (s : Stay H H') {x : NestedKey × Addr × Value} {q : D × D} (h : Ent K H x q) : Ent K H' x q :=
  ⟨h.1, h.2.1, h.2.2.1.stay s, let ⟨v, a, b⟩ := h.2.2.2; ⟨v, a, b.stay s⟩⟩
/-- an object stays described where its own cell does -/
theorem IsO.stay (s : Stay H H') {a : Addr} (e : ∀ u, H a = some u → H' a = some u) {o : O} (h : IsO P w K H a o) : IsO P w K H' a o := by
  cases o with
  | lst ds => obtain ⟨xs, q, r⟩ := h; exact ⟨xs, e _ q, r.stay s⟩
  | dct kvs =>
    obtain ⟨ls, q, r⟩ := h
    exact ⟨ls, e _ q, pair_mono r fun _ _ z => ⟨z.1, z.2.stay s⟩⟩
  | tct kvs =>
    obtain ⟨o, es, ep, xs, q, r1, r2, r3, r4, r5, r6, r7⟩ := h
    exact ⟨o, es, ep, xs, e _ q, r1, r2, r3, r4, r5, pair_mono r6 fun _ _ z => z.stay s, r7⟩
  | ins C fs => obtain ⟨dx, gs, q, r1, r2⟩ := h; exact ⟨dx, gs, e _ q, r1, r2.stay s⟩
theorem RG.same (g : RG P w K H G) (s : Stay H H') (e : ∀ a u, H a = some u → H' a = some u) : RG P w K H' G := fun a o h => (g a o h).stay s (e a)
/-- a new object that T does not tell -/
theorem RG.new (g : RG P w K H G) {u : HO} (h : H p = none) : RG P w K (upd H p u) G := g.same (Stay.new h) fun a v e => by rw [upd_ne (ne_of_none e h)]; exact e
theorem IsO.there {a : Addr} {o : O} (h : IsO P w K H a o) : ∃ u, H a = some u ∧ (∀ xs, u ≠ .tup xs) ∧ ∀ x y, u ≠ .frz x y := by
  cases o with
  | lst ds => obtain ⟨xs, q, r⟩ := h; exact ⟨_, q, (fun _ z => by cases z), fun _ _ z => by cases z⟩
  | dct kvs =>
    obtain ⟨ls, q, r⟩ := h
    exact ⟨_, q, (fun _ z => by cases z), fun _ _ z => by cases z⟩
  | tct kvs =>
    obtain ⟨o, es, ep, xs, q, _⟩ := h
    exact ⟨_, q, (fun _ z => by cases z), fun _ _ z => by cases z⟩
  | ins C fs => obtain ⟨dx, gs, q, r1, r2⟩ := h; exact ⟨_, q, (fun _ z => by cases z), fun _ _ z => by cases z⟩
theorem RG.fresh (g : RG P w K H G) (hp : H p = none) : G p = none := by
  cases e : G p with
  | none => rfl
  | some o =>
    obtain ⟨u, h, _⟩ := (g p o e).there
    rw [hp] at h; cases h
/-- the object at p is changed -/
theorem RG.put (g : RG P w K H G) {u v : HO} {o : O} (h : H p = some u) (n1 : ∀ xs, u ≠ .tup xs) (n2 : ∀ a b, u ≠ .frz a b) (new : IsO P w K (upd H p v) p o) : RG P w K (upd H p v) (gup G p o) := fun a z e => by
  by_cases q : a = p
  · subst q; rw [gup_same] at e; cases e; exact new
  · rw [gup_ne q] at e
    exact (g a z e).stay (Stay.put h n1 n2) fun u' e' => by rw [upd_ne q]; exact e'
theorem RG.add (g : RG P w K H G) {v : HO} {o : O} (h : H p = none) (new : IsO P w K (upd H p v) p o) : RG P w K (upd H p v) (gup G p o) := fun a z e => by
  by_cases q : a = p
  · subst q; rw [gup_same] at e; cases e; exact new
  · rw [gup_ne q] at e
    exact (g a z e).stay (Stay.new h) fun u' e' => by rw [upd_ne q]; exact e'
end
end TL
end
section
set_option Elab.async false
set_option linter.all false
set_option maxRecDepth 100000
set_option maxHeartbeats 4000000
namespace TL
open PySem PySem.Spec PyProof.Rows L2

/-! ### the judgements: readings over data -/
abbrev KD := D → Gp → Prop
abbrev TEd := Sd → Gp → KD → Prop
abbrev TTd := Sd → Gp → (Bool → Gp → Prop) → Prop
abbrev TAd := Sd → Gp → (List D → Gp → Prop) → Prop
structure EndsD where
  nx : Sd → Gp → Prop
  rt : KD
  bk : Sd → Gp → Prop := fun _ _ => False
  ct : Sd → Gp → Prop := fun _ _ => False
abbrev TSd := EndsD → Sd → Gp → Prop
def up (X : Cq) (t : TEd) : TE := fun σ H R => ∃ ρ G Q, Rel X ρ G σ H ∧ t ρ G Q ∧ ∀ v H1 d G1, Stay H H1 → RG X.prog X.w X.K H1 G1 → IsD X.K H1 d v → Q d G1 → R v H1
def upT (X : Cq) (t : TTd) : TT := fun σ H R => ∃ ρ G Q, Rel X ρ G σ H ∧ t ρ G Q ∧ ∀ b H1 G1, Stay H H1 → RG X.prog X.w X.K H1 G1 → Q b G1 → R b H1
def upA (X : Cq) (t : TAd) : TA := fun σ H R => ∃ ρ G Q, Rel X ρ G σ H ∧ t ρ G Q ∧ ∀ vs H1 ds G1, Stay H H1 → RG X.prog X.w X.K H1 G1 → IsDs X.K H1 ds vs → Q ds G1 → R vs H1
structure EndsOk (X : Cq) (H : Hp) (E : EndsD) (F : Ends) : Prop where
  nx : ∀ σ H1 ρ G, Stay H H1 → Rel X ρ G σ H1 → E.nx ρ G → F.nx σ H1
  rt : ∀ v H1 d G, Stay H H1 → RG X.prog X.w X.K H1 G → IsD X.K H1 d v → E.rt d G → F.rt v H1
  bk : ∀ σ H1 ρ G, Stay H H1 → Rel X ρ G σ H1 → E.bk ρ G → F.bk σ H1
  ct : ∀ σ H1 ρ G, Stay H H1 → Rel X ρ G σ H1 → E.ct ρ G → F.ct σ H1
theorem EndsOk.to {X : Cq} {H H1 : Hp} {E : EndsD} {F : Ends} (k : EndsOk X H E F) (s : Stay H H1) : EndsOk X H1 E F :=
  ⟨fun σ H2 ρ G t => k.nx σ H2 ρ G (s.trans t), fun v H2 d G t => k.rt v H2 d G (s.trans t), fun σ H2 ρ G t => k.bk σ H2 ρ G (s.trans t), fun σ H2 ρ G t => k.ct σ H2 ρ G (s.trans t)⟩
def upS (X : Cq) (t : TSd) : TS := fun F σ H => ∃ ρ G E, Rel X ρ G σ H ∧ t E ρ G ∧ EndsOk X H E F
abbrev QE (X : Cx) (e : Expr) (t : TEd) : Prop := PE X e (up (qc X) t)
abbrev QT (X : Cx) (e : Expr) (t : TTd) : Prop := PT X e (upT (qc X) t)
abbrev QW (X : Cx) (e : Expr) (t : TTd) : Prop := PW X e (upT (qc X) t)
abbrev QA (X : Cx) (es : List Expr) (t : TAd) : Prop := PA X es (upA (qc X) t)
abbrev QS (X : Cx) (st : Stmt) (t : TSd) : Prop := PS X st (upS (qc X) t)
abbrev QSs (X : Cx) (sts : List Stmt) (t : TSd) : Prop := PSs X sts (upS (qc X) t)
section
variable {X : Cx}
theorem pe_imp {e : Expr} {t u : TE} (h : PE X e u) (f : ∀ σ H R, t σ H R → u σ H R) : PE X e t := ⟨fun pins s σ H Q I q => h.run pins s σ H Q I (f σ H Q q)⟩
theorem pt_imp {e : Expr} {t u : TT} (h : PT X e u) (f : ∀ σ H R, t σ H R → u σ H R) : PT X e t := ⟨fun pins s σ H Q I q => h.run pins s σ H Q I (f σ H Q q)⟩
theorem pw_imp {e : Expr} {t u : TT} (h : PW X e u) (f : ∀ σ H R, t σ H R → u σ H R) : PW X e t := ⟨fun wh pins s σ H Q I q => h.run wh pins s σ H Q I (f σ H Q q)⟩
theorem pa_imp {e : List Expr} {t u : TA} (h : PA X e u) (f : ∀ σ H R, t σ H R → u σ H R) : PA X e t := ⟨fun pos pins s σ H Q I q => h.run pos pins s σ H Q I (f σ H Q q)⟩
theorem ps_imp {e : Stmt} {t u : TS} (h : PS X e u) (f : ∀ F σ H, t F σ H → u F σ H) : PS X e t := ⟨fun pins s σ H Q I q => h.run pins s σ H Q I (f Q σ H q)⟩
theorem pss_imp {e : List Stmt} {t u : TS} (h : PSs X e u) (f : ∀ F σ H, t F σ H → u F σ H) : PSs X e t := ⟨fun pins s σ H Q I q => h.run pins s σ H Q I (f Q σ H q)⟩
/-- on from a part's reading -/
theorem up_on {t : TEd} {ρ : Sd} {G : Gp} {σ : L2.St} {H : Hp} {Q : KD} {R : VK} (r : Rel (qc X) ρ G σ H) (h : t ρ G Q) (k : ∀ v H1 d G1, Stay H H1 → RG X.prog X.w X.K H1 G1 → IsD X.K H1 d v → Q d G1 → R v H1) : up (qc X) t σ H R := ⟨ρ, G, Q, r, h, k⟩
end

/-! ### branching -/
/-- the two ways -/
def Br (b : Bool) (x y : Prop) : Prop := (b = true → x) ∧ (b = false → y)
theorem Br.t {b : Bool} {x y : Prop} (e : b = true) (h : x) : Br b x y := ⟨fun _ => h, fun z => (by rw [e] at z; cases z)⟩
theorem Br.f {b : Bool} {x y : Prop} (e : b = false) (h : y) : Br b x y := ⟨fun z => (by rw [e] at z; cases z), fun _ => h⟩
theorem Br.ite {b : Bool} {x y : Prop} (h : Br b x y) : if b = true then x else y := by
  cases b with
  | true => exact h.1 rfl
  | false => exact h.2 rfl

/-! ### names, constants -/
section
variable {X : Cx} {a b c : Expr} {ta tb tc : TEd} {pos : Pos}
def qVar (i : Nat) : TEd := fun ρ G Q => match sl ρ i with | some d => Q d G | none => False
def qC (d : D) : TEd := fun _ G Q => Q d G
theorem qv (i : Nat) {x : Str} {pos : Pos} (hN : X.N[i]? = some x := by rfl) (hv : Vis X.env.scope x := by first | exact Or.inl rfl | exact Or.inr (Or.inl rfl) | exact Or.inr (Or.inr rfl)) (hd : (x == ("__debug__" : Str)) = false := by decide)
    (hcd : (x == ("__classdict__" : Str)) = false := by decide) : QE X (.Name x pos) (qVar i) := by
  refine pe_imp (pe_var (i := i) hN hv hd hcd) fun σ H R h => ?_
  obtain ⟨ρ, G, Q, r, h, k⟩ := h
  unfold qVar at h
  cases e : sl ρ i with
  | none => rw [e] at h; exact h.elim
  | some d =>
    rw [e] at h
    obtain ⟨v, q1, q2⟩ := r.rv.get e
    exact ⟨v, q1, k v H d G (Stay.refl H) r.rg q2 h⟩
theorem qconst {e : Expr} {d : D} {v : V} (h : PE X e (tC v)) (hv : ∀ H, IsD X.K H d v) : QE X e (qC d) :=
  pe_imp h fun σ H R ⟨ρ, G, Q, r, h, k⟩ => k v H d G (Stay.refl H) r.rg (hv H) h
theorem q_int {i j pos} : QE X (.Constant (.int i) j pos) (qC (.int i)) := qconst pe_int fun _ => rfl
theorem q_bl {b j pos} : QE X (.Constant (.bool b) j pos) (qC (.bl b)) := qconst pe_bl fun _ => rfl
theorem q_non {j pos} : QE X (.Constant .none j pos) (qC .non) := qconst pe_non fun _ => rfl
theorem q_str {x j pos} : QE X (.Constant (.str x) j pos) (qC (.str x)) := qconst pe_str fun _ => rfl
/-- a constant of a module -/
theorem q_glob {x : Str} {d : D} {v : V} {u : Value} {pos : Pos} (hg : Gl X x) (hm : X.mg x = some u) (r : RelV v u) (hv : ∀ H, IsD X.K H d v) (hd : (x == ("__debug__" : Str)) = false := by decide) : QE X (.Name x pos) (qC d) := qconst (pe_glob hg hm r hd) hv
end

/-! ### two-place operations -/
abbrev R2d := D → D → Gp → KD → Prop
def qBin (r : R2d) (ta tb : TEd) : TEd := fun ρ G Q => ta ρ G fun x G1 => tb ρ G1 fun y G2 => r x y G2 Q
/-- what is wanted of a HandS reading r by a reading over data r' -/
def Lift2 (X : Cq) (r : R2) (r' : R2d) : Prop := ∀ (H : Hp) (G : Gp) (x y : V) (d e : D) (Q : KD) (R : VK), RG X.prog X.w X.K H G → IsD X.K H d x → IsD X.K H e y → r' d e G Q →
  (∀ v H1 d1 G1, Stay H H1 → RG X.prog X.w X.K H1 G1 → IsD X.K H1 d1 v → Q d1 G1 → R v H1) → r x y H R
structure OpQ (X : Cx) (f : Value → Value → Sem Value) (r' : R2d) : Prop where
  ex : ∃ r : R2, OpR X f r ∧ Lift2 (qc X) r r'
section
variable {X : Cx} {a b c : Expr} {ta tb tc : TEd} {pos : Pos}
theorem up_bin {r : R2} {r' : R2d} (l : Lift2 (qc X) r r') : ∀ σ H R, up (qc X) (qBin r' ta tb) σ H R → tOp r (up (qc X) ta) (up (qc X) tb) σ H R := by
  rintro σ H R ⟨ρ, G, Q, rl, h, k⟩
  refine up_on rl h fun x H1 d G1 s1 g1 i1 q1 => ?_
  refine up_on (rl.to s1 g1) q1 fun y H2 e G2 s2 g2 i2 q2 => ?_
  exact l H2 G2 x y d e Q R g2 (i1.stay s2) i2 q2 fun v H3 d3 G3 s3 g3 i3 q3 => k v H3 d3 G3 ((s1.trans s2).trans s3) g3 i3 q3
theorem q_op {op : Operator} {r' : R2d} (ho : OpQ X (binaryOp op) r') (ha : QE X a ta) (hb : QE X b tb) : QE X (.BinOp a op b pos) (qBin r' ta tb) := by
  obtain ⟨r, h, l⟩ := ho.ex
  exact pe_imp (pe_op h ha hb) (up_bin l)
theorem q_cmp {op : CmpOp} {r' : R2d} (ho : OpQ X (compareOp op) r') (ha : QE X a ta) (hb : QE X b tb) (hm : behindInMarks op b = false := by first | exact nomark _ | rfl) : QE X (.Compare a [op] [b] pos) (qBin r' ta tb) := by
  obtain ⟨r, h, l⟩ := ho.ex
  exact pe_imp (pe_cmpR h ha hb hm) (up_bin l)
/-- a < b < c -/
def qChain (r r2 : R2d) (ta tb tc : TEd) : TEd := fun ρ G Q => ta ρ G fun x G1 => tb ρ G1 fun y G2 => r x y G2 fun z G3 => match z with
  | .bl k => Br k (tc ρ G3 fun c G4 => r2 y c G4 Q) (Q (.bl false) G3)
  | _ => False
end
theorem lift_ii {X : Cx} {C : Int → Int → Prop} {g : Int → Int → Int} : Lift2 (qc X) (rI C fun i j => .int (g i j)) (fun x y G Q => match x, y with | .int i, .int j => C i j ∧ Q (.int (g i j)) G | _, _ => False) := by
  intro H G x y d e Q R hg hx hy h k
  cases d with
  | int i =>
    cases e with
    | int j => exact ⟨i, j, hx, hy, h.1, k (.int (g i j)) H (.int (g i j)) G (Stay.refl H) hg rfl h.2⟩
    | _ => exact h.elim
  | _ => exact h.elim
theorem lift_ii0 {X : Cx} {g : Int → Int → Int} : Lift2 (qc X) (rI0 fun i j => .int (g i j)) (fun x y G Q => match x, y with | .int i, .int j => Q (.int (g i j)) G | _, _ => False) := by
  intro H G x y d e Q R hg hx hy h k
  cases d with
  | int i =>
    cases e with
    | int j => exact ⟨i, j, hx, hy, k (.int (g i j)) H (.int (g i j)) G (Stay.refl H) hg rfl h⟩
    | _ => exact h.elim
  | _ => exact h.elim
theorem lift_ib0 {X : Cx} {g : Int → Int → Bool} : Lift2 (qc X) (rI0 fun i j => .bl (g i j)) (fun x y G Q => match x, y with | .int i, .int j => Q (.bl (g i j)) G | _, _ => False) := by
  intro H G x y d e Q R hg hx hy h k
  cases d with
  | int i =>
    cases e with
    | int j => exact ⟨i, j, hx, hy, k (.bl (g i j)) H (.bl (g i j)) G (Stay.refl H) hg rfl h⟩
    | _ => exact h.elim
  | _ => exact h.elim
def rdII (g : Int → Int → Int) : R2d := fun x y G Q => match x, y with | .int i, .int j => Q (.int (g i j)) G | _, _ => False
def rdIC (C : Int → Int → Prop) (g : Int → Int → Int) : R2d := fun x y G Q => match x, y with | .int i, .int j => C i j ∧ Q (.int (g i j)) G | _, _ => False
def rdIB (g : Int → Int → Bool) : R2d := fun x y G Q => match x, y with | .int i, .int j => Q (.bl (g i j)) G | _, _ => False
section
variable {X : Cx}
theorem oq_sub : OpQ X (binaryOp .Sub) (rdII fun i j => i - j) := ⟨_, op_sub, lift_ii0⟩

theorem oq_fdiv : OpQ X (binaryOp .FloorDiv) (rdIC CDivW fun i j => i / j) := ⟨_, op_fdivW, lift_ii⟩
theorem oq_mod : OpQ X (binaryOp .Mod) (rdIC (fun _ j => 0 < j) fun i j => i % j) := ⟨_, op_mod, lift_ii⟩
theorem oq_pow : OpQ X (binaryOp .Pow) (rdIC CPow fun i j => i ^ j.toNat) := ⟨_, op_pow, lift_ii⟩
theorem oq_lt : OpQ X (compareOp .Lt) (rdIB fun i j => decide (i < j)) := ⟨_, op_lt, lift_ib0⟩
theorem oq_le : OpQ X (compareOp .LtE) (rdIB fun i j => decide (i ≤ j)) := ⟨_, op_le, lift_ib0⟩
theorem oq_gt : OpQ X (compareOp .Gt) (rdIB fun i j => decide (j < i)) := ⟨_, op_gt, lift_ib0⟩
theorem oq_ge : OpQ X (compareOp .GtE) (rdIB fun i j => decide (j ≤ i)) := ⟨_, op_ge, lift_ib0⟩
end
/-! a + b: ints, tuples, lists -/
def rdAdd : R2d := fun x y G Q => match x, y with
  | .int i, .int j => Q (.int (i + j)) G
  | .tup xs, .tup ys => xs.length + ys.length ≤ sizeLine ∧ Q (.tup (xs ++ ys)) G
  | .ref a, .ref b => ∃ xs ys, G a = some (.lst xs) ∧ G b = some (.lst ys) ∧ xs.length + ys.length ≤ sizeLine ∧ ∀ p, G p = none → Q (.ref p) (gup G p (.lst (xs ++ ys)))
  | _, _ => False
theorem oq_add {X : Cx} : OpQ X (binaryOp .Add) rdAdd := by
  refine ⟨_, (op_add.or op_catA).or op_cat, ?_⟩
  intro H G x y d e Q R hg hx hy h k
  cases d with
  | int i =>
    cases e with
    | int j => exact .inl (.inl ⟨i, j, hx, hy, k (.int (i + j)) H (.int (i + j)) G (Stay.refl H) hg rfl h⟩)
    | _ => exact h.elim
  | tup xs =>
    cases e with
    | tup ys =>
      obtain ⟨a, us, rfl, qa, ia⟩ := hx
      obtain ⟨b, vs, rfl, qb, ib⟩ := hy
      have la := ia.length
      have lb := ib.length
      refine .inl (.inr ⟨a, b, us, vs, rfl, rfl, qa, qb, by rw [la, lb]; exact h.1, fun z => ?_, fun _ z => ?_, fun _ _ p hp => ?_⟩)
      · have : xs = [] := by subst z; exact List.eq_nil_of_length_eq_zero la.symm
        subst this
        exact k (.ref b) H (.tup ([] ++ ys)) G (Stay.refl H) hg ⟨_, _, rfl, qb, ib⟩ h.2
      · have : ys = [] := by subst z; exact List.eq_nil_of_length_eq_zero lb.symm
        subst this
        exact k (.ref a) H (.tup (xs ++ [])) G (Stay.refl H) hg ⟨_, _, rfl, qa, by rw [List.append_nil]; exact ia⟩ h.2
      · have s := Stay.new (o := .tup (us ++ vs)) hp
        exact k (.ref p) _ (.tup (xs ++ ys)) G s (hg.new hp) ⟨p, us ++ vs, rfl, .inl (.inl upd_same), (ia.append ib).stay s⟩ h.2
    | _ => exact h.elim
  | ref a =>
    cases e with
    | ref b =>
      obtain ⟨xs, ys, ea, eb, hl, q⟩ := h
      obtain ⟨us, ha, ia⟩ := hg a _ ea
      obtain ⟨vs, hb, ib⟩ := hg b _ eb
      refine .inr ⟨a, b, us, vs, hx, hy, ha, hb, by rw [ia.length, ib.length]; exact hl, fun p hp => ?_⟩
      have s := Stay.new (o := .lst (us ++ vs)) hp
      exact k (.ref p) _ (.ref p) (gup G p (.lst (xs ++ ys))) s (hg.add (o := .lst (xs ++ ys)) hp ⟨_, upd_same, (ia.append ib).stay s⟩) rfl (q p (hg.fresh hp))
    | _ => exact h.elim
  | _ => exact h.elim
end TL
end
section
set_option Elab.async false
set_option linter.all false
set_option maxRecDepth 100000
set_option maxHeartbeats 4000000
namespace TL
open PySem PySem.Spec PyProof.Rows L2
/-- both can be compared -/
def okEq (x y : D) : Prop := (x.flat && y.flat && decide (x.dep ≤ 64) && decide (y.dep ≤ 64)) = true
theorem okEq.all {x y : D} (h : okEq x y) : x.flat = true ∧ y.flat = true ∧ x.dep ≤ 64 ∧ y.dep ≤ 64 := by
  unfold okEq at h
  simp only [Bool.and_eq_true, decide_eq_true_eq] at h
  exact ⟨h.1.1.1, h.1.1.2, h.1.2, h.2⟩
theorem IsDs.sq {K : PySem.W.Frag} {P : Program} {w : World} {H : Hp} {G : Gp} {a : Addr} {ds : List D} (hg : RG P w K H G) (e : G a = some (.lst ds)) (f : D.flats ds = true) : Dp K H (.ref a) (.list (D.pys ds)) := by
  obtain ⟨xs, h, i⟩ := hg a _ e
  exact .lst (.inl (.inl h)) (i.dp f)
theorem shaped_lst {ds : List D} (f : D.flats ds = true) (h : D.deps ds < 64) : SeqAt.shaped (.list (D.pys ds)) = true := by
  obtain ⟨a, b⟩ := D.shaped_pys ds f
  unfold SeqAt.shaped
  simp only [PyData.canLay0, PyData.depth, a, b, Bool.true_and, decide_eq_true_eq]
  omega
/-- lists that can be compared -/
def okL (xs : List D) : Prop := (D.flats xs && decide (D.deps xs < 64)) = true
theorem okL.all {xs : List D} (h : okL xs) : D.flats xs = true ∧ D.deps xs < 64 := by
  unfold okL at h
  simpa using h
/-- == : two lists, or data -/
def rdEqW (neg : Bool → Bool) : R2d := fun x y G Q => match x, y with
  | .ref a, .ref b => ∃ xs ys, G a = some (.lst xs) ∧ G b = some (.lst ys) ∧ okL xs ∧ okL ys ∧ Q (.bl (neg (D.eqvs xs ys))) G
  | _, _ => okEq x y ∧ Q (.bl (neg (D.eqv x y))) G
abbrev rdEq : R2d := rdEqW id
abbrev rdNe : R2d := rdEqW not
theorem rdEq_of {neg : Bool → Bool} {x y : D} {G : Gp} {Q : KD} (h : rdEqW neg x y G Q) : (∃ a b xs ys, x = .ref a ∧ y = .ref b ∧ G a = some (.lst xs) ∧ G b = some (.lst ys) ∧ okL xs ∧ okL ys ∧ Q (.bl (neg (D.eqvs xs ys))) G) ∨ (okEq x y ∧ Q (.bl (neg (D.eqv x y))) G) := by
  unfold rdEqW at h
  split at h
  · obtain ⟨xs, ys, h⟩ := h
    exact .inl ⟨_, _, xs, ys, rfl, rfl, h⟩
  · exact .inr h
theorem oq_eq {X : Cx} (hu : X.A.units + 64 < cLine) : OpQ X (compareOp .Eq) rdEq := by
  refine ⟨_, op_eqD hu, fun H G x y d e Q R hg hx hy h k => ?_⟩
  rcases rdEq_of h with ⟨a, b, xs, ys, rfl, rfl, ea, eb, h1, h2, q⟩ | ⟨h1, q⟩
  · cases hx; cases hy
    obtain ⟨f1, d1⟩ := h1.all
    obtain ⟨f2, d2⟩ := h2.all
    refine ⟨_, _, IsDs.sq hg ea f1, IsDs.sq hg eb f2, shaped_lst f1 d1, shaped_lst f2 d2, ?_⟩
    refine k _ H (.bl (D.eqvs xs ys)) G (Stay.refl H) hg ?_ q
    show V.bl (PyData.eqvAll _ _) = _
    rw [D.eqvs_py _ _ f1 f2]
  · obtain ⟨f1, f2, d1, d2⟩ := h1.all
    refine ⟨_, _, hx.dp f1, hy.dp f2, D.shaped_of f1 d1, D.shaped_of f2 d2, ?_⟩
    refine k _ H (.bl (D.eqv d e)) G (Stay.refl H) hg ?_ q
    show V.bl _ = _
    rw [D.eqv_py _ _ f1 f2]
theorem oq_ne {X : Cx} (hu : X.A.units + 64 < cLine) : OpQ X (compareOp .NotEq) rdNe := by
  refine ⟨_, op_neD hu, fun H G x y d e Q R hg hx hy h k => ?_⟩
  rcases rdEq_of h with ⟨a, b, xs, ys, rfl, rfl, ea, eb, h1, h2, q⟩ | ⟨h1, q⟩
  · cases hx; cases hy
    obtain ⟨f1, d1⟩ := h1.all
    obtain ⟨f2, d2⟩ := h2.all
    refine ⟨_, _, IsDs.sq hg ea f1, IsDs.sq hg eb f2, shaped_lst f1 d1, shaped_lst f2 d2, ?_⟩
    refine k _ H (.bl (!D.eqvs xs ys)) G (Stay.refl H) hg ?_ q
    show V.bl (!PyData.eqvAll _ _) = _
    rw [D.eqvs_py _ _ f1 f2]
  · obtain ⟨f1, f2, d1, d2⟩ := h1.all
    refine ⟨_, _, hx.dp f1, hy.dp f2, D.shaped_of f1 d1, D.shaped_of f2 d2, ?_⟩
    refine k _ H (.bl (!D.eqv d e)) G (Stay.refl H) hg ?_ q
    show V.bl _ = _
    rw [D.eqv_py _ _ f1 f2]

/-! ### in, not in -/
/-- among the items -/
def D.among (x : D) (ds : List D) : Bool := ds.any fun z => D.eqv z x
theorem any_py {x : D} (fx : x.flat = true) : ∀ {ds : List D}, D.flats ds = true → ((D.pys ds).any fun z => PyData.eqv z x.py) = D.among x ds
  | [], _ => rfl
  | d :: ds, h => by
    rw [D.flats, Bool.and_eq_true] at h
    unfold D.among
    rw [D.pys, List.any_cons, List.any_cons, D.eqv_py _ _ h.1 fx, any_py fx h.2]
    rfl
def rdInTup (neg : Bool → Bool) : R2d := fun x y G Q => match y with
  | .tup ds => okEq x y ∧ Q (.bl (neg (D.among x ds))) G
  | _ => False
def rdInLst (neg : Bool → Bool) : R2d := fun x y G Q => match y with
  | .ref b => ∃ ds, G b = some (.lst ds) ∧ okEq x .non ∧ okL ds ∧ Q (.bl (neg (D.among x ds))) G
  | _ => False
def rInT (K : PySem.W.Frag) (neg : Bool → Bool) : R2 := fun x y H Q => ∃ d ds, Dp K H x d ∧ Dp K H y (.tuple ds) ∧ SeqAt.shaped d = true ∧ SeqAt.shaped (.tuple ds) = true ∧ Q (.bl (neg (ds.any fun z => PyData.eqv z d))) H
theorem op_inT {X : Cx} (hu : X.A.units + 65 < cLine) : OpR X (compareOp .In) (rInT X.K id) := by
  intro pins s σ H x y v u Q I rx ry h
  obtain ⟨d, ds, hd, he, sd, se, q⟩ := h
  obtain ⟨as, r1⟩ := Dp.reads I d x v hd rx
  obtain ⟨bs, r2⟩ := Dp.reads I (.tuple ds) y u he ry
  exact SeqAt.in_tuple_reads r2 r1 (SeqAt.canLay_of_shaped se) (SeqAt.canLay_of_shaped sd) (room_in_shaped sd hu) ⟨.bl _, H, I, rfl, q⟩
theorem op_notInT {X : Cx} (hu : X.A.units + 65 < cLine) : OpR X (compareOp .NotIn) (rInT X.K not) := by
  intro pins s σ H x y v u Q I rx ry h
  obtain ⟨d, ds, hd, he, sd, se, q⟩ := h
  obtain ⟨as, r1⟩ := Dp.reads I d x v hd rx
  obtain ⟨bs, r2⟩ := Dp.reads I (.tuple ds) y u he ry
  exact SeqAt.notIn_tuple_reads r2 r1 (SeqAt.canLay_of_shaped se) (SeqAt.canLay_of_shaped sd) (room_in_shaped sd hu) ⟨.bl _, H, I, rfl, q⟩
theorem lift_inT {X : Cx} {neg : Bool → Bool} : Lift2 (qc X) (rInT X.K neg) (rdInTup neg) := by
  intro H G x y d e Q R hg hx hy h k
  cases e with
  | tup ds =>
    obtain ⟨f1, f2, d1, d2⟩ := h.1.all
    refine ⟨d.py, D.pys ds, hx.dp f1, hy.dp f2, D.shaped_of f1 d1, D.shaped_of f2 d2, ?_⟩
    refine k _ H (.bl (neg (D.among d ds))) G (Stay.refl H) hg ?_ h.2
    show V.bl _ = _
    rw [any_py f1 f2]
  | _ => exact h.elim
theorem oq_inT {X : Cx} (hu : X.A.units + 65 < cLine) : OpQ X (compareOp .In) (rdInTup id) := ⟨_, op_inT hu, lift_inT⟩
theorem oq_ninT {X : Cx} (hu : X.A.units + 65 < cLine) : OpQ X (compareOp .NotIn) (rdInTup not) := ⟨_, op_notInT hu, lift_inT⟩
theorem lift_inL {X : Cx} {neg : Bool → Bool} {r : R2} (hr : ∀ x y H Q, (∃ d ds, Dp X.K H x d ∧ Dp X.K H y (.list ds) ∧ SeqAt.shaped d = true ∧ SeqAt.shaped (.list ds) = true ∧ Q (.bl (neg (ds.any fun z => PyData.eqv z d))) H) → r x y H Q) : Lift2 (qc X) r (rdInLst neg) := by
  intro H G x y d e Q R hg hx hy h k
  cases e with
  | ref b =>
    obtain ⟨ds, eb, h1, h2, q⟩ := h
    cases hy
    obtain ⟨f1, _, d1, _⟩ := h1.all
    obtain ⟨f2, d2⟩ := h2.all
    refine hr _ _ _ _ ⟨d.py, D.pys ds, hx.dp f1, IsDs.sq hg eb f2, D.shaped_of f1 d1, shaped_lst f2 d2, ?_⟩
    refine k _ H (.bl (neg (D.among d ds))) G (Stay.refl H) hg ?_ q
    show V.bl _ = _
    rw [any_py f1 f2]
  | _ => exact h.elim
theorem oq_inL {X : Cx} (hu : X.A.units + 65 < cLine) : OpQ X (compareOp .In) (rdInLst id) := ⟨_, op_inD hu, lift_inL fun _ _ _ _ z => z⟩
theorem oq_ninL {X : Cx} (hu : X.A.units + 65 < cLine) : OpQ X (compareOp .NotIn) (rdInLst not) := ⟨_, op_notInD hu, lift_inL fun _ _ _ _ z => z⟩

/-! ### is None -/
theorem isN_D {K : PySem.W.Frag} {H : Hp} {d : D} {v : V} (h : IsD K H d v) : decide (v = .non) = decide (d = .non) := by
  cases d with
  | non => rw [show v = .non from h]; rfl
  | bl _ => rw [show v = .bl _ from h]; rfl
  | int _ => rw [show v = .int _ from h]; rfl
  | str _ => rw [show v = .str _ from h]; rfl
  | ref _ => rw [show v = .ref _ from h]; rfl
  | scr _ => obtain ⟨a, rfl, _⟩ := h; rfl
  | tup _ => obtain ⟨a, _, rfl, _⟩ := h; rfl
def D.isNon : D → Bool
  | .non => true
  | _ => false
theorem isNon_dec (d : D) : decide (d = .non) = d.isNon := by cases d <;> rfl
def rdIsN (neg : Bool → Bool) : R2d := fun x y G Q => match y with | .non => Q (.bl (neg x.isNon)) G | _ => False
theorem oq_isN {X : Cx} : OpQ X (compareOp .Is) (rdIsN id) := by
  refine ⟨_, op_isN, fun H G x y d e Q R hg hx hy h k => ?_⟩
  cases e with
  | non => exact ⟨hy, by rw [isN_D hx, isNon_dec]; exact k _ H (.bl d.isNon) G (Stay.refl H) hg rfl h⟩
  | _ => exact h.elim
theorem oq_notN {X : Cx} : OpQ X (compareOp .IsNot) (rdIsN not) := by
  refine ⟨_, op_notN, fun H G x y d e Q R hg hx hy h k => ?_⟩
  cases e with
  | non => exact ⟨hy, by rw [isN_D hx, isNon_dec]; exact k _ H (.bl (!d.isNon)) G (Stay.refl H) hg rfl h⟩
  | _ => exact h.elim
/-! ### products -/
def CM (i j : Int) : Prop := CMul i j ∨ CMulW i j
theorem op_mulM {X : Cx} : OpR X (binaryOp .Mult) (rI CM fun i j => .int (i * j)) := opI fun i j _ _ _ _ _ hc q => hc.elim (fun h => mul_int q h.ok) fun h => mul_int q h.ok
theorem oq_mul {X : Cx} : OpQ X (binaryOp .Mult) (rdIC CM fun i j => i * j) := ⟨_, op_mulM, lift_ii⟩
/-! ### unary -/
section
variable {X : Cx} {a b c : Expr} {ta tb tc : TEd} {rest : List Expr} {pos : Pos}
def qNeg (ta : TEd) : TEd := fun ρ G Q => ta ρ G fun x G1 => match x with | .int i => Q (.int (-i)) G1 | _ => False
theorem q_neg (ha : QE X a ta) : QE X (.UnaryOp .USub a pos) (qNeg ta) := by
  refine pe_imp (pe_un un_neg ha) fun σ H R ⟨ρ, G, Q, r, h, k⟩ => ?_
  refine up_on r h fun x H1 d G1 s g i q => ?_
  cases d with
  | int n => exact ⟨n, i, k _ H1 (.int (-n)) G1 s g rfl q⟩
  | _ => exact q.elim
/-! ### tests -/
def qB (t : TEd) : TTd := fun ρ G Q => t ρ G fun x G1 => match x with | .bl b => Q b G1 | _ => False
theorem upB {t : TEd} : ∀ σ H R, upT (qc X) (qB t) σ H R → tB (up (qc X) t) σ H R := by
  rintro σ H R ⟨ρ, G, Q, r, h, k⟩
  refine up_on r h fun x H1 d G1 s g i q => ?_
  cases d with
  | bl b => exact ⟨b, i, k b H1 G1 s g q⟩
  | _ => exact q.elim
theorem qt_val {e : Expr} {t : TEd} (h : QE X e t) (he : ∀ whole, isTrue e X.env whole = (do let v ← whole; standAt e.pos; holding [v] (truthy v)) := by intro _; rfl) : QT X e (qB t) := pt_imp (pt_val h he) upB
theorem qt_cmp {op : CmpOp} {r' : R2d} (ho : OpQ X (compareOp op) r') (ha : QE X a ta) (hb : QE X b tb) (hm : behindInMarks op b = false := by first | exact nomark _ | rfl) : QT X (.Compare a [op] [b] pos) (qB (qBin r' ta tb)) := by
  obtain ⟨r, h, l⟩ := ho.ex
  refine pt_imp (pt_cmpR h ha hb hm) fun σ H R q => ?_
  obtain ⟨ρ, G, Q, rl, h, k⟩ := q
  refine up_bin l σ H _ ⟨ρ, G, _, rl, h, fun v H1 d G1 s g i q => ?_⟩
  cases d with
  | bl b => exact ⟨b, i, k b H1 G1 s g q⟩
  | _ => exact q.elim
def qAndT (t u : TTd) : TTd := fun ρ G Q => t ρ G fun b G1 => Br b (u ρ G1 Q) (Q false G1)
def qOrT (t u : TTd) : TTd := fun ρ G Q => t ρ G fun b G1 => Br b (Q true G1) (u ρ G1 Q)
def qNotT (t : TTd) : TTd := fun ρ G Q => t ρ G fun b G1 => Q (!b) G1
variable {qa qb : TTd}
theorem qw_and1 (ha : QT X a qa) : QW X (.BoolOp .And [a] pos) qa := pw_and1 ha
theorem qw_or1 (ha : QT X a qa) : QW X (.BoolOp .Or [a] pos) qa := pw_or1 ha
theorem qw_and (ha : QT X a qa) (hb : QW X (.BoolOp .And (b :: rest) pos) qb) : QW X (.BoolOp .And (a :: b :: rest) pos) (qAndT qa qb) := by
  refine pw_imp (pw_and ha hb) fun σ H R ⟨ρ, G, Q, r, h, k⟩ => ⟨ρ, G, _, r, h, fun c H1 G1 s g q => ?_⟩
  refine Br.ite ⟨fun e => ⟨ρ, G1, Q, r.to s g, q.1 e, fun c' H2 G2 s2 g2 q2 => k c' H2 G2 (s.trans s2) g2 q2⟩, fun e => k false H1 G1 s g (q.2 e)⟩
theorem qw_or (ha : QT X a qa) (hb : QW X (.BoolOp .Or (b :: rest) pos) qb) : QW X (.BoolOp .Or (a :: b :: rest) pos) (qOrT qa qb) := by
  refine pw_imp (pw_or ha hb) fun σ H R ⟨ρ, G, Q, r, h, k⟩ => ⟨ρ, G, _, r, h, fun c H1 G1 s g q => ?_⟩
  refine Br.ite ⟨fun e => k true H1 G1 s g (q.1 e), fun e => ⟨ρ, G1, Q, r.to s g, q.2 e, fun c' H2 G2 s2 g2 q2 => k c' H2 G2 (s.trans s2) g2 q2⟩⟩
theorem qw_t {e : Expr} (h : QW X e qa) : QT X e qa := PW.pt h
theorem qt_not (ha : QT X a qa) : QT X (.UnaryOp .Not a pos) (qNotT qa) :=
  pt_imp (pt_not ha) fun σ H R ⟨ρ, G, Q, r, h, k⟩ => ⟨ρ, G, _, r, h, fun c H1 G1 s g q => k (!c) H1 G1 s g q⟩
/-! as values (bools, but the last) -/
def qAndV (ta tb : TEd) : TEd := fun ρ G Q => ta ρ G fun x G1 => match x with | .bl b => Br b (tb ρ G1 Q) (Q (.bl false) G1) | _ => False
def qOrV (ta tb : TEd) : TEd := fun ρ G Q => ta ρ G fun x G1 => match x with | .bl b => Br b (Q (.bl true) G1) (tb ρ G1 Q) | _ => False
def qNotV (ta : TEd) : TEd := fun ρ G Q => ta ρ G fun x G1 => match x with | .bl b => Q (.bl (!b)) G1 | _ => False
theorem q_one {op} {t : TEd} (h : QE X a t) : QE X (.BoolOp op [a] pos) t := pe_one h
theorem q_and (ha : QE X a ta) (hb : QE X (.BoolOp .And (b :: rest) pos) tb) : QE X (.BoolOp .And (a :: b :: rest) pos) (qAndV ta tb) := by
  refine pe_imp (pe_and ha hb) fun σ H R ⟨ρ, G, Q, r, h, k⟩ => ⟨ρ, G, _, r, h, fun c H1 d G1 s g i q => ?_⟩
  cases d with
  | bl b => exact ⟨b, i, Br.ite ⟨fun e => ⟨ρ, G1, Q, r.to s g, q.1 e, fun c' H2 d2 G2 s2 g2 i2 q2 => k c' H2 d2 G2 (s.trans s2) g2 i2 q2⟩, fun e => k _ H1 (.bl false) G1 s g rfl (q.2 e)⟩⟩
  | _ => exact q.elim
theorem q_or (ha : QE X a ta) (hb : QE X (.BoolOp .Or (b :: rest) pos) tb) : QE X (.BoolOp .Or (a :: b :: rest) pos) (qOrV ta tb) := by
  refine pe_imp (pe_or ha hb) fun σ H R ⟨ρ, G, Q, r, h, k⟩ => ⟨ρ, G, _, r, h, fun c H1 d G1 s g i q => ?_⟩
  cases d with
  | bl b => exact ⟨b, i, Br.ite ⟨fun e => k _ H1 (.bl true) G1 s g rfl (q.1 e), fun e => ⟨ρ, G1, Q, r.to s g, q.2 e, fun c' H2 d2 G2 s2 g2 i2 q2 => k c' H2 d2 G2 (s.trans s2) g2 i2 q2⟩⟩⟩
  | _ => exact q.elim
theorem q_not (ha : QE X a ta) : QE X (.UnaryOp .Not a pos) (qNotV ta) := by
  refine pe_imp (pe_not ha) fun σ H R ⟨ρ, G, Q, r, h, k⟩ => ⟨ρ, G, _, r, h, fun c H1 d G1 s g i q => ?_⟩
  cases d with
  | bl b => exact ⟨b, i, k _ H1 (.bl (!b)) G1 s g rfl q⟩
  | _ => exact q.elim
def qIf (t : TTd) (ta tb : TEd) : TEd := fun ρ G Q => t ρ G fun b G1 => Br b (ta ρ G1 Q) (tb ρ G1 Q)
theorem q_if (hc : QT X c qa) (ha : QE X a ta) (hb : QE X b tb) : QE X (.IfExp c a b pos) (qIf qa ta tb) := by
  refine pe_imp (pe_ifExp hc ha hb) fun σ H R ⟨ρ, G, Q, r, h, k⟩ => ⟨ρ, G, _, r, h, fun c H1 G1 s g q => Br.ite ?_⟩
  exact ⟨fun e => ⟨ρ, G1, Q, r.to s g, q.1 e, fun c' H2 d2 G2 s2 g2 i2 q2 => k c' H2 d2 G2 (s.trans s2) g2 i2 q2⟩, fun e => ⟨ρ, G1, Q, r.to s g, q.2 e, fun c' H2 d2 G2 s2 g2 i2 q2 => k c' H2 d2 G2 (s.trans s2) g2 i2 q2⟩⟩
/-! a < b < c -/
theorem q_chain {op op' : CmpOp} {r1 r2 : R2d} (ho : OpQ X (compareOp op) r1) (ho' : OpQ X (compareOp op') r2) (ha : QE X a ta) (hb : QE X b tb) (hc : QE X c tc)
    (hm : lastMarks [op, op'] [b, c] = false := by with_unfolding_all rfl) : QE X (.Compare a [op, op'] [b, c] pos) (qChain r1 r2 ta tb tc) := by
  obtain ⟨r, h, l⟩ := ho.ex
  obtain ⟨r', h', l'⟩ := ho'.ex
  refine pe_imp (pe_chain h h' ha hb hc hm) fun σ H R ⟨ρ, G, Q, rl, q, k⟩ => ?_
  refine up_on rl q fun x H1 d G1 s1 g1 i1 q1 => ?_
  refine up_on (rl.to s1 g1) q1 fun y H2 e G2 s2 g2 i2 q2 => ?_
  refine l H2 G2 x y d e _ _ g2 (i1.stay s2) i2 q2 fun v H3 d3 G3 s3 g3 i3 q3 => ?_
  have s13 := (s1.trans s2).trans s3
  cases d3 with
  | bl b =>
    refine ⟨b, i3, Br.ite ⟨fun e3 => ?_, fun e3 => k _ H3 (.bl false) G3 s13 g3 rfl (q3.2 e3)⟩⟩
    refine up_on (rl.to s13 g3) (q3.1 e3) fun z H4 f G4 s4 g4 i4 q4 => ?_
    exact l' H4 G4 y z e f Q R g4 (i2.stay (s3.trans s4)) i4 q4 fun v H5 d5 G5 s5 g5 i5 q5 => k v H5 d5 G5 (s13.trans (s4.trans s5)) g5 i5 q5
  | _ => exact q3.elim
end
end TL
end
section
set_option Elab.async false
set_option linter.all false
set_option maxRecDepth 100000
set_option maxHeartbeats 4000000
namespace TL
open PySem PySem.Spec PyProof.Rows L2
/-! ### argument lists, displays -/
def qNil : TAd := fun _ G Q => Q [] G
def qCons (ta : TEd) (tr : TAd) : TAd := fun ρ G Q => ta ρ G fun x G1 => tr ρ G1 fun xs G2 => Q (x :: xs) G2
section
variable {X : Cx} {e a b : Expr} {es : List Expr} {te ta tb : TEd} {t : TAd} {pos : Pos}
theorem qa_nil : QA X [] qNil := pa_imp pa_nil fun σ H R ⟨ρ, G, Q, r, h, k⟩ => k [] H [] G (Stay.refl H) r.rg rfl h
theorem qa_cons (ha : QE X e te) (hr : QA X es t) (hs : starEach (e :: es) X.env = (false, eval e X.env) :: starEach es X.env := by rfl) : QA X (e :: es) (qCons te t) := by
  refine pa_imp (pa_cons ha hr hs) fun σ H R ⟨ρ, G, Q, r, h, k⟩ => ?_
  refine up_on r h fun x H1 d G1 s1 g1 i1 q1 => ⟨ρ, G1, _, r.to s1 g1, q1, fun xs H2 ds G2 s2 g2 i2 q2 => ?_⟩
  exact k (x :: xs) H2 (d :: ds) G2 (s1.trans s2) g2 ⟨x, xs, rfl, i1.stay s2, i2⟩ q2
def qTup (t : TAd) : TEd := fun ρ G Q => t ρ G fun ds G1 => ds.length ≤ 1000 ∧ Q (.tup ds) G1
def qLst (t : TAd) : TEd := fun ρ G Q => t ρ G fun ds G1 => ds.length ≤ 1000 ∧ ∀ p, G1 p = none → Q (.ref p) (gup G1 p (.lst ds))
theorem le_line {n : Nat} (h : n ≤ 1000) : n ≤ sizeLine := Nat.le_trans h (by decide)
theorem q_tup {x1} (h : QA X es t) : QE X (.Tuple es x1 pos) (qTup t) := by
  refine pe_imp (pe_tup h) fun σ H R ⟨ρ, G, Q, r, h, k⟩ => ⟨ρ, G, _, r, h, fun xs H1 ds G1 s g i q => ?_⟩
  refine ⟨by rw [i.length]; exact le_line q.1, fun p hp => ?_⟩
  have s2 := Stay.new (o := .tup xs) hp
  exact k (.ref p) _ (.tup ds) G1 (s.trans s2) (g.new hp) ⟨p, xs, rfl, .inl (.inl upd_same), i.stay s2⟩ q.2
theorem q_lst (h : QA X es t) : QE X (.List es pos) (qLst t) := by
  refine pe_imp (pe_lst h) fun σ H R ⟨ρ, G, Q, r, h, k⟩ => ⟨ρ, G, _, r, h, fun xs H1 ds G1 s g i q => ?_⟩
  refine ⟨by rw [i.length]; exact le_line q.1, fun p hp => ?_⟩
  have s2 := Stay.new (o := .lst xs) hp
  exact k (.ref p) _ (.ref p) (gup G1 p (.lst ds)) (s.trans s2) (g.add (o := .lst ds) hp ⟨xs, upd_same, i.stay s2⟩) rfl (q.2 p (g.fresh hp))
end
/-! ### subscripts -/
theorem atI_IsDs {K : PySem.W.Frag} {H : Hp} {ds : List D} {vs : List V} {i : Int} {d : D} (r : IsDs K H ds vs) (h : atI ds i = some d) : ∃ v, atI vs i = some v ∧ IsD K H d v := by
  unfold atI at h ⊢
  rw [r.length]
  cases e : ixN ds.length i with
  | none => rw [e] at h; cases h
  | some j => rw [e] at h; exact r.get h
def nth : List D → Nat → Option D
  | [], _ => none
  | d :: _, 0 => some d
  | _ :: r, n + 1 => nth r n
theorem nth_eq : ∀ (ds : List D) (n : Nat), nth ds n = ds[n]?
  | [], n => by simp [nth]
  | d :: _, 0 => rfl
  | d :: r, n + 1 => by rw [nth, nth_eq r n]; rfl
theorem nth_atI {ds : List D} {k : Nat} {d : D} (h : nth ds k = some d) : atI ds (k : Int) = some d := atI_nat (by rw [← nth_eq]; exact h)
/-- a[k], k written -/
def rdIxK (k : Nat) : D → Gp → KD → Prop := fun x G Q => match x with
  | .tup ds => (match nth ds k with | some d => Q d G | none => False)
  | .ref a => ∃ ds d, G a = some (.lst ds) ∧ nth ds k = some d ∧ Q d G
  | _ => False
def qIxK (k : Nat) (ta : TEd) : TEd := fun ρ G Q => ta ρ G fun x G1 => rdIxK k x G1 Q
/-- a[i] -/
def rdIx : R2d := fun x y G Q => match x, y with
  | .tup ds, .int i => ∃ d, atI ds i = some d ∧ Q d G
  | .ref a, .int i => ∃ ds d, G a = some (.lst ds) ∧ atI ds i = some d ∧ Q d G
  | _, _ => False
section
variable {X : Cx} {e a b : Expr} {es : List Expr} {te ta tb : TEd} {t : TAd} {pos : Pos}
theorem lift_ix : Lift2 (qc X) (fun x y H Q => rIxL X.K x y H Q ∨ rIxT X.K x y H Q) rdIx := by
  intro H G x y d e Q R hg hx hy h k
  cases e with
  | int i =>
    cases d with
    | tup ds =>
      obtain ⟨c, h1, h2⟩ := h
      obtain ⟨a, xs, rfl, q, r⟩ := hx
      obtain ⟨v, e1, e2⟩ := atI_IsDs r h1
      exact .inr ⟨a, xs, i, v, rfl, hy, q, e1, k v H c G (Stay.refl H) hg e2 h2⟩
    | ref a =>
      obtain ⟨ds, c, ea, h1, h2⟩ := h
      obtain ⟨xs, q, r⟩ := hg a _ ea
      obtain ⟨v, e1, e2⟩ := atI_IsDs r h1
      exact .inl ⟨a, xs, i, v, hx, hy, .inl (.inl q), e1, k v H c G (Stay.refl H) hg e2 h2⟩
    | _ => exact h.elim
  | _ => cases d <;> exact h.elim
theorem q_ix (ha : QE X a ta) (hb : QE X b tb) (hs : PlainIx b := by exact fun _ _ => rfl) : QE X (.Subscript a b pos) (qBin rdIx ta tb) :=
  pe_imp (pe_ix (ix_list.or ix_tup) ha hb hs) (up_bin lift_ix)
theorem q_ixk {k : Nat} {j p2} (ha : QE X a ta) (hs : PlainIx (.Constant (.int (k : Int)) j p2) := by exact fun _ _ => rfl) : QE X (.Subscript a (.Constant (.int (k : Int)) j p2) pos) (qIxK k ta) := by
  refine pe_imp (pe_ix (ix_list.or ix_tup) ha (pe_int (X := X) (i := (k : Int)) (j := j) (pos := p2)) hs) fun σ H R ⟨ρ, G, Q, r, h, z⟩ => ?_
  refine up_on r h fun x H1 d G1 s g i q => ?_
  refine lift_ix H1 G1 x (.int k) d (.int k) Q R g i rfl ?_ fun v H2 d2 G2 s2 g2 i2 q2 => z v H2 d2 G2 (s.trans s2) g2 i2 q2
  unfold rdIxK at q
  cases d with
  | tup ds =>
    cases e : nth ds k with
    | none => simp only [e] at q
    | some c => simp only [e] at q; exact ⟨c, nth_atI e, q⟩
  | ref a => obtain ⟨ds, c, e1, e2, q⟩ := q; exact ⟨ds, c, e1, nth_atI e2, q⟩
  | _ => exact q.elim
end
/-! ### slices -/
def cutD (ds : List D) (lo hi : Option Int) : List D := (ds.drop (HT.sIx ds.length 0 lo)).take (HT.sIx ds.length ds.length hi - HT.sIx ds.length 0 lo)
theorem cut_IsDs {K : PySem.W.Frag} {H : Hp} {ds : List D} {vs : List V} (r : IsDs K H ds vs) (lo hi : Option Int) : IsDs K H (cutD ds lo hi) (cutV vs lo hi) := by
  unfold cutD cutV
  rw [r.length]
  exact (r.drop _).take _
abbrev TOd := Sd → Gp → (Option Int → Gp → Prop) → Prop
def upO (X : Cq) (t : TOd) : TO := fun σ H R => ∃ ρ G Q, Rel X ρ G σ H ∧ t ρ G Q ∧ ∀ o H1 G1, Stay H H1 → RG X.prog X.w X.K H1 G1 → Q o G1 → R o H1
abbrev QO (X : Cx) (e : Option Expr) (t : TOd) : Prop := PO X e (upO (qc X) t)
theorem po_imp {X : Cx} {e : Option Expr} {t u : TO} (h : PO X e u) (f : ∀ σ H R, t σ H R → u σ H R) : PO X e t := ⟨fun pins s σ H Q I q => h.run pins s σ H Q I (f σ H Q q)⟩
def qNoPart : TOd := fun _ G Q => Q none G
def qPart (t : TEd) : TOd := fun ρ G Q => t ρ G fun x G1 => match x with | .int i => Q (some i) G1 | _ => False
section
variable {X : Cx} {e a b : Expr} {es : List Expr} {te ta tb : TEd} {t : TAd} {pos p2 : Pos} {tl th : TOd} {lo hi : Option Expr}
theorem qo_none : QO X none qNoPart := po_imp po_none fun σ H R ⟨ρ, G, Q, r, h, k⟩ => k none H G (Stay.refl H) r.rg h
theorem qo_some (h : QE X e te) : QO X (some e) (qPart te) := by
  refine po_imp (po_some h) fun σ H R ⟨ρ, G, Q, r, h, k⟩ => up_on r h fun x H1 d G1 s g i q => ?_
  cases d with
  | int n => exact ⟨n, i, k _ H1 G1 s g q⟩
  | _ => exact q.elim
def rdSl : D → Option Int → Option Int → Gp → KD → Prop := fun x lo hi G Q => match x with
  | .tup ds => Q (.tup (cutD ds lo hi)) G
  | .ref a => ∃ ds, G a = some (.lst ds) ∧ ∀ p, G p = none → Q (.ref p) (gup G p (.lst (cutD ds lo hi)))
  | _ => False
def qSl (te : TEd) (tl th : TOd) : TEd := fun ρ G Q => te ρ G fun x G1 => tl ρ G1 fun l G2 => th ρ G2 fun u G3 => rdSl x l u G3 Q
theorem q_slice (he : QE X e te) (hl : QO X lo tl) (hh : QO X hi th) : QE X (.Subscript e (.Slice lo hi none p2) pos) (qSl te tl th) := by
  refine pe_imp (pe_slice (sl_list.or sl_tupA) he hl hh) fun σ H R ⟨ρ, G, Q, r, h, k⟩ => ?_
  refine up_on r h fun x H1 d G1 s1 g1 i1 q1 => ⟨ρ, G1, _, r.to s1 g1, q1, fun l H2 G2 s2 g2 q2 => ⟨ρ, G2, _, r.to (s1.trans s2) g2, q2, fun u H3 G3 s3 g3 q3 => ?_⟩⟩
  have s13 := (s1.trans s2).trans s3
  have i3 := i1.stay (s2.trans s3)
  cases d with
  | tup ds =>
    obtain ⟨a, xs, rfl, q, z⟩ := i3
    have hl := z.length
    refine .inr ⟨a, xs, rfl, q, fun w => ?_, fun _ p hp => ?_⟩
    · refine k (.ref a) H3 (.tup (cutD ds l u)) G3 s13 g3 ⟨a, xs, rfl, q, ?_⟩ q3
      have : cutD ds l u = ds := by
        unfold cutD
        rw [hl] at w
        rw [w.1, w.2, List.drop_zero, Nat.sub_zero, List.take_length]
      rw [this]; exact z
    · have s4 := Stay.new (o := .tup (cutV xs l u)) hp
      exact k (.ref p) _ (.tup (cutD ds l u)) G3 (s13.trans s4) (g3.new hp) ⟨p, _, rfl, .inl (.inl upd_same), (cut_IsDs z l u).stay s4⟩ q3
  | ref a =>
    obtain ⟨ds, ea, q⟩ := q3
    obtain ⟨xs, e, z⟩ := g3 a _ ea
    refine .inl ⟨a, xs, i3, .inl (.inl e), fun p hp => ?_⟩
    have s4 := Stay.new (o := .lst (cutV xs l u)) hp
    exact k (.ref p) _ (.ref p) (gup G3 p (.lst (cutD ds l u))) (s13.trans s4) (g3.add (o := .lst (cutD ds l u)) hp ⟨_, upd_same, (cut_IsDs z l u).stay s4⟩) rfl (q p (g3.fresh hp))
  | _ => exact q3.elim
end
/-! ### calls of built-ins -/
abbrev RCd := List D → Gp → KD → Prop
def LiftC (X : Cq) (r : List V → Hp → VK → Prop) (r' : RCd) : Prop := ∀ (H : Hp) (G : Gp) (xs : List V) (ds : List D) (Q : KD) (R : VK), RG X.prog X.w X.K H G → IsDs X.K H ds xs → r' ds G Q →
  (∀ v H1 d1 G1, Stay H H1 → RG X.prog X.w X.K H1 G1 → IsD X.K H1 d1 v → Q d1 G1 → R v H1) → r xs H R
structure CallQ (X : Cx) (f : Value) (r' : RCd) : Prop where
  ex : ∃ r, CallR X f r ∧ LiftC (qc X) r r'
def qCB (r : RCd) (t : TAd) : TEd := fun ρ G Q => t ρ G fun ds G1 => r ds G1 Q
section
variable {X : Cx} {x : Str} {p pos : Pos} {e : Expr} {es : List Expr} {t : TAd} {id Ty : String} {r' : RCd}
theorem up_cb {r : List V → Hp → VK → Prop} (l : LiftC (qc X) r r') : ∀ σ H R, up (qc X) (qCB r' t) σ H R → tCB r (upA (qc X) t) σ H R := by
  rintro σ H R ⟨ρ, G, Q, rl, h, k⟩
  exact ⟨ρ, G, _, rl, h, fun xs H1 ds G1 s g i q => l H1 G1 xs ds Q R g i q fun v H2 d G2 s2 g2 i2 q2 => k v H2 d G2 (s.trans s2) g2 i2 q2⟩
theorem q_callB (hc : CallQ X (.builtin id) r') (hg : Gl X x) (hm : X.mg x = none) (hv : bootBuiltins x = some (.builtin id)) (ha : QA X (e :: es) t) (hn : x ≠ "__name__" := by decide) (hdb : (x == ("__debug__" : Str)) = false := by decide)
    (he : starEach (e :: es) X.env = (false, eval e X.env) :: starEach es X.env := by rfl) (hpl : (backTo pos (starEach es X.env)).any (·.1) = false := by rfl) : QE X (.Call (.Name x p) (e :: es) [] pos) (qCB r' t) := by
  obtain ⟨r, h, l⟩ := hc.ex
  exact pe_imp (pe_callB h hg hm hv ha hn hdb he hpl) (up_cb l)
theorem q_callTy (hc : CallQ X (.type Ty) r') (hg : Gl X x) (hm : X.mg x = none) (hv : bootBuiltins x = some (.type Ty)) (ha : QA X (e :: es) t) (hn : x ≠ "__name__" := by decide) (hdb : (x == ("__debug__" : Str)) = false := by decide)
    (he : starEach (e :: es) X.env = (false, eval e X.env) :: starEach es X.env := by rfl) (hpl : (backTo pos (starEach es X.env)).any (·.1) = false := by rfl) : QE X (.Call (.Name x p) (e :: es) [] pos) (qCB r' t) := by
  obtain ⟨r, h, l⟩ := hc.ex
  exact pe_imp (pe_callTy h hg hm hv ha hn hdb he hpl) (up_cb l)
end
theorem IsDs.one {K : PySem.W.Frag} {H : Hp} {d : D} {xs : List V} (h : IsDs K H [d] xs) : ∃ x, xs = [x] ∧ IsD K H d x := by
  obtain ⟨v, r, rfl, i, z⟩ := h
  exact ⟨v, by rw [show r = [] from z], i⟩
theorem IsDs.two {K : PySem.W.Frag} {H : Hp} {d e : D} {xs : List V} (h : IsDs K H [d, e] xs) : ∃ x y, xs = [x, y] ∧ IsD K H d x ∧ IsD K H e y := by
  obtain ⟨v, r, rfl, i, z⟩ := h
  obtain ⟨y, rfl, j⟩ := z.one
  exact ⟨v, y, rfl, i, j⟩
/-- len of a tuple, a list, the script, a dict of plain keys -/
def rdLen : RCd := fun ds G Q => match ds with
  | [.tup xs] => Q (.int xs.length) G
  | [.scr ns] => Q (.int ns.length) G
  | [.ref a] => ∃ xs, G a = some (.lst xs) ∧ Q (.int xs.length) G
  | _ => False
def rdI1 (f : Int → Int) : RCd := fun ds G Q => match ds with | [.int i] => Q (.int (f i)) G | _ => False
def rdI2 (f : Int → Int → Int) : RCd := fun ds G Q => match ds with | [.int i, .int j] => Q (.int (f i j)) G | _ => False
def rdToInt : RCd := fun ds G Q => match ds with | [.int i] => Q (.int i) G | [.bl b] => Q (.int (if b then 1 else 0)) G | _ => False
section
variable {X : Cx}
theorem cq_len : CallQ X (.builtin "len") rdLen := by
  refine ⟨_, call_len_seq, fun H G xs ds Q R hg hx h k => ?_⟩
  unfold rdLen at h
  split at h
  · obtain ⟨x, rfl, a, us, rfl, q, z⟩ := hx.one
    exact ⟨a, us, rfl, .inr q, by rw [z.length]; exact k _ H (.int _) G (Stay.refl H) hg rfl h⟩
  · obtain ⟨x, rfl, a, rfl, q⟩ := hx.one
    exact ⟨a, _, rfl, .inl q.sqL, by rw [List.length_map]; exact k _ H (.int _) G (Stay.refl H) hg rfl h⟩
  · obtain ⟨x, rfl, i⟩ := hx.one
    obtain ⟨ys, ea, q⟩ := h
    obtain ⟨us, e, z⟩ := hg _ _ ea
    cases i
    exact ⟨_, us, rfl, .inl (.inl (.inl e)), by rw [z.length]; exact k _ H (.int _) G (Stay.refl H) hg rfl q⟩
  · exact h.elim
theorem cq_abs : CallQ X (.builtin "abs") (rdI1 fun i => (i.natAbs : Int)) := by
  refine ⟨_, call_abs, fun H G xs ds Q R hg hx h k => ?_⟩
  unfold rdI1 at h
  split at h
  · rename_i i
    obtain ⟨x, rfl, e⟩ := hx.one
    have e' : (if i < 0 then -i else i) = (i.natAbs : Int) := by split <;> omega
    exact ⟨i, by rw [show x = V.int i from e], by rw [e']; exact k _ H (.int _) G (Stay.refl H) hg rfl h⟩
  · exact h.elim
theorem cq_max2 (hc : X.calm = true) : CallQ X (.builtin "max") (rdI2 fun i j => max i j) := by
  refine ⟨_, call_max2 hc, fun H G xs ds Q R hg hx h k => ?_⟩
  unfold rdI2 at h
  split at h
  · rename_i i j
    obtain ⟨x, y, rfl, e1, e2⟩ := hx.two
    have e' : (if j > i then j else i) = max i j := by split <;> omega
    exact ⟨i, j, by rw [show x = V.int i from e1, show y = V.int j from e2], by rw [e']; exact k _ H (.int _) G (Stay.refl H) hg rfl h⟩
  · exact h.elim
theorem cq_min2 (hc : X.calm = true) : CallQ X (.builtin "min") (rdI2 fun i j => min i j) := by
  refine ⟨_, call_min2 hc, fun H G xs ds Q R hg hx h k => ?_⟩
  unfold rdI2 at h
  split at h
  · rename_i i j
    obtain ⟨x, y, rfl, e1, e2⟩ := hx.two
    have e' : (if j < i then j else i) = min i j := by split <;> omega
    exact ⟨i, j, by rw [show x = V.int i from e1, show y = V.int j from e2], by rw [e']; exact k _ H (.int _) G (Stay.refl H) hg rfl h⟩
  · exact h.elim
theorem cq_int : CallQ X (.type "int") rdToInt := by
  refine ⟨_, call_int1, fun H G xs ds Q R hg hx h k => ?_⟩
  unfold rdToInt at h
  split at h
  · rename_i i
    obtain ⟨x, rfl, e⟩ := hx.one
    exact .inl ⟨i, by rw [show x = V.int i from e], k _ H (.int _) G (Stay.refl H) hg rfl h⟩
  · rename_i b
    obtain ⟨x, rfl, e⟩ := hx.one
    exact .inr ⟨b, by rw [show x = V.bl b from e], k _ H (.int _) G (Stay.refl H) hg rfl h⟩
  · exact h.elim
end
/-! ### isinstance -/
def D.ty : D → String
  | .non => "NoneType"
  | .bl _ => "bool"
  | .int _ => "int"
  | .str _ => "str"
  | .tup _ => "tuple"
  | .ref _ => "list"
  | .scr _ => "list"
/-- isinstance(d, T) for a value that is no mutable object -/
def D.isi (T : String) : D → Bool
  | .bl _ => T == "bool" || T == "int"
  | .int _ => T == "int"
  | .str _ => T == "str"
  | .tup _ => T == "tuple"
  | .scr _ => T == "list"
  | _ => false
theorem isi_tab : ∀ a ∈ ["NoneType", "bool", "int", "str", "tuple", "list"], ∀ b ∈ ["bool", "int", "str", "tuple", "list"], kitB a b = some (a == b || (a == "bool" && b == "int")) := by decide +kernel
theorem tyX_of {K : PySem.W.Frag} {H : Hp} {d : D} {v : V} (h : IsD K H d v) (n : ∀ a, d ≠ .ref a) : TyX K H v (.type d.ty) := by
  cases d with
  | non => rw [show v = .non from h]; exact .base .non
  | bl b => rw [show v = .bl b from h]; exact .base (.bl b)
  | int b => rw [show v = .int b from h]; exact .base (.int b)
  | str b => rw [show v = .str b from h]; exact .base (.str b)
  | ref a => exact absurd rfl (n a)
  | scr ns =>
    obtain ⟨a, rfl, ⟨o, h⟩ | ⟨o, its, k, e, c, _⟩⟩ := h
    · exact .base (.frz h)
    · exact .kList e c
  | tup ds =>
    obtain ⟨a, xs, rfl, (h | ⟨o, h⟩) | ⟨o, its, k, e, c, _⟩, _⟩ := h
    · exact .base (.tup h)
    · exact .fTuple h
    · exact .kTuple e c
theorem isi_ty {d : D} (n : ∀ a, d ≠ .ref a) {b : String} (hb : b ∈ ["bool", "int", "str", "tuple", "list"]) : kitB d.ty b = some (d.isi b) := by
  have m : d.ty ∈ ["NoneType", "bool", "int", "str", "tuple", "list"] := by cases d <;> simp [D.ty]
  rw [isi_tab _ m _ hb]
  cases d with
  | ref a => exact absurd rfl (n a)
  | _ => (simp only [List.mem_cons, List.not_mem_nil, or_false] at hb; rcases hb with rfl | rfl | rfl | rfl | rfl <;> simp [D.ty, D.isi])
/-- isinstance(e, T), T a built-in type -/
def qIsi (T : String) (te : TEd) : TEd := fun ρ G Q => te ρ G fun d G1 => match d with
  | .ref a => ∃ ds, G1 a = some (.lst ds) ∧ Q (.bl (T == "list")) G1
  | d => Q (.bl (d.isi T)) G1
theorem q_isi {X : Cx} {e : Expr} {te : TEd} {Ty : String} {y : Str} {p p2 pos : Pos} (hg : Gl X "isinstance") (hm : X.mg "isinstance" = none) (hg2 : Gl X y) (hm2 : X.mg y = none) (hv2 : bootBuiltins y = some (.type Ty)) (he : QE X e te)
    (hT : Ty ∈ ["bool", "int", "str", "tuple", "list"] := by decide) (hn : y ≠ "__name__" := by decide) (hd : (y == ("__debug__" : Str)) = false := by decide)
    (st : starEach [e, .Name y p2] X.env = (false, eval e X.env) :: starEach [.Name y p2] X.env := by rfl) (st2 : starEach [.Name y p2] X.env = (false, eval (.Name y p2) X.env) :: starEach [] X.env := by rfl) (hpl : (backTo pos (starEach [.Name y p2] X.env)).any (·.1) = false := by rfl) :
    QE X (.Call (.Name "isinstance" p) [e, .Name y p2] [] pos) (qIsi Ty te) := by
  refine pe_imp (pe_callB call_isi hg hm (by decide +kernel) (pa_cons he (pa_cons (pe_bltn (v := .ty Ty) hg2 hm2 hv2 rfl hn hd) pa_nil st2) st) (by decide) (by decide) st hpl) fun σ H R ⟨ρ, G, Q, r, h, k⟩ => ?_
  refine up_on r h fun v H1 d G1 s g i q => ?_
  by_cases n : ∀ a, d ≠ .ref a
  · have q' : Q (.bl (d.isi Ty)) G1 := by
      cases d with
      | ref a => exact absurd rfl (n a)
      | _ => exact q
    exact ⟨v, .ty Ty, .type d.ty, .type Ty, d.isi Ty, rfl, .ty Ty, tyX_of i n, kit_ty (isi_ty n hT), k _ H1 (.bl _) G1 s g rfl q'⟩
  · obtain ⟨a, rfl⟩ : ∃ a, d = .ref a := Classical.not_forall_not.mp n
    obtain ⟨ds, ea, q⟩ := q
    obtain ⟨xs, e1, _⟩ := g a _ ea
    rw [show v = .ref a from i]
    refine ⟨.ref a, .ty Ty, .type "list", .type Ty, Ty == "list", rfl, .ty Ty, .base (.lst e1), kit_ty ?_, k _ H1 (.bl _) G1 s g rfl q⟩
    rw [isi_tab _ (by decide) _ hT]
    simp only [List.mem_cons, List.not_mem_nil, or_false] at hT
    rcases hT with rfl | rfl | rfl | rfl | rfl <;> simp
end TL
end
section
set_option Elab.async false
set_option linter.all false
set_option maxRecDepth 100000
set_option maxHeartbeats 4000000
namespace TL
open PySem PySem.Spec PyProof.Rows L2
/-! ### what is walked -/
/-- what the heap is to hold at each turn -/
def GOf : List (Addr × O) → Gp → Prop
  | [], _ => True
  | (a, o) :: r, G => G a = some o ∧ GOf r G
theorem GOf.app : ∀ {x y : List (Addr × O)} {G : Gp}, GOf (x ++ y) G → GOf x G ∧ GOf y G
  | [], _, _, h => ⟨trivial, h⟩
  | (a, o) :: r, y, G, h => ⟨⟨h.1, (GOf.app (x := r) h.2).1⟩, (GOf.app (x := r) h.2).2⟩
theorem GOf.mk : ∀ {x y : List (Addr × O)} {G : Gp}, GOf x G → GOf y G → GOf (x ++ y) G
  | [], _, _, _, h => h
  | (a, o) :: r, y, G, h, h2 => ⟨h.1, GOf.mk (x := r) h.2 h2⟩
theorem GOf.mono : ∀ {x : List (Addr × O)} {G G' : Gp}, (∀ a o, G a = some o → G' a = some o) → GOf x G → GOf x G'
  | [], _, _, _, _ => trivial
  | (a, o) :: r, _, _, m, h => ⟨m a o h.1, GOf.mono (x := r) m h.2⟩
/-- the items, told once; gl: what holds of the heap at each turn -/
structure Sim (X : Cq) (H1 : Hp) (J : It) (items : List D) (gl : List (Addr × O)) : Prop where
  go : ∀ i H G, Stay H1 H → RG X.prog X.w X.K H G → GOf gl G → i < items.length → J.go i H
  yld : ∀ i H G x H', Stay H1 H → RG X.prog X.w X.K H G → GOf gl G → J.yld i H x H' → ∀ d, items[i]? = some d → Stay H H' ∧ RG X.prog X.w X.K H' G ∧ IsD X.K H' d x
  stop : ∀ H G, Stay H1 H → RG X.prog X.w X.K H G → GOf gl G → J.stop items.length H
abbrev TId := Sd → Gp → (List D → List (Addr × O) → Gp → Prop) → Prop
def upI (X : Cq) (t : TId) : TI := fun σ H R => ∃ ρ G Q, Rel X ρ G σ H ∧ t ρ G Q ∧ ∀ J H1 items gl G1, Stay H H1 → RG X.prog X.w X.K H1 G1 → Sim X H1 J items gl → GOf gl G1 → Q items gl G1 → R J H1
abbrev QI (X : Cx) (tg e : Expr) (t : TId) : Prop := PI X tg e (upI (qc X) t)
theorem pi_imp {X : Cx} {tg e : Expr} {t u : TI} (h : PI X tg e u) (f : ∀ σ H R, t σ H R → u σ H R) : PI X tg e t := ⟨fun pins s σ H Q I q => h.run pins s σ H Q I (f σ H Q q)⟩
section
variable {X : Cx} {tg e : Expr} {te : TEd}
theorem IsDs.yld {K : PySem.W.Frag} {H : Hp} {ds : List D} {xs : List V} (r : IsDs K H ds xs) {i : Nat} {x : V} {d : D} (hx : xs[i]? = some x) (hd : ds[i]? = some d) : IsD K H d x := by
  obtain ⟨v, e, q⟩ := r.get hd
  rw [hx] at e; cases e; exact q
theorem IsDs.some {K : PySem.W.Frag} {H : Hp} {ds : List D} {xs : List V} (r : IsDs K H ds xs) {i : Nat} (h : i < ds.length) : ∃ x, xs[i]? = some x := by
  have := r.length
  exact ⟨xs[i], List.getElem?_eq_getElem (by omega)⟩
theorem sim_tup {H1 : Hp} {a : Addr} {ds : List D} {xs : List V} (q : SqT X.K H1 a xs) (r : IsDs X.K H1 ds xs) : Sim (qc X) H1 (Itt X.K a) ds [] where
  go := fun i H G s g _ h => let ⟨x, e⟩ := r.some h; ⟨xs, x, s.sqT q, e⟩
  yld := fun i H G x H' s g _ y d e => by
    obtain ⟨z, f⟩ := y
    subst z
    exact ⟨Stay.refl _, g, (r.stay s).yld (f xs (s.sqT q)) e⟩
  stop := fun H G s g _ => ⟨xs, s.sqT q, Nat.le_of_eq r.length⟩
theorem sim_lst {H1 : Hp} {a : Addr} {ds : List D} : Sim (qc X) H1 (Itl X.K a) ds [(a, .lst ds)] where
  go := fun i H G s g e h => let ⟨xs, q, r⟩ := g a _ e.1; let ⟨x, z⟩ := r.some h; ⟨xs, x, .inl (.inl q), z⟩
  yld := fun i H G x H' s g e y d ed => by
    obtain ⟨z, f⟩ := y
    subst z
    obtain ⟨xs, q, r⟩ := g a _ e.1
    exact ⟨Stay.refl _, g, r.yld (f xs (.inl (.inl q))) ed⟩
  stop := fun H G s g e => let ⟨xs, q, r⟩ := g a _ e.1; ⟨xs, .inl (.inl q), Nat.le_of_eq r.length⟩
theorem sim_scr {H1 : Hp} {a : Addr} {ns : List Int} (q : RoI X.K H1 a (ns.map V.int)) : Sim (qc X) H1 (Itl X.K a) (ns.map D.int) [] where
  go := fun i H G s g _ h => let ⟨x, e⟩ := (IsDs.of_ints (K := X.K) (H := H) (ns := ns)).some h; ⟨_, x, (s.roI q).sqL, e⟩
  yld := fun i H G x H' s g _ y d e => by
    obtain ⟨z, f⟩ := y
    subst z
    exact ⟨Stay.refl _, g, IsDs.of_ints.yld (f _ (s.roI q).sqL) e⟩
  stop := fun H G s g _ => ⟨_, (s.roI q).sqL, by simp⟩
/-! ranges -/
def rangeD (lo : Int) (n : Nat) (c : Int) : List D := (List.range n).map fun i => D.int (lo + (i : Nat) * c)
theorem rangeD_len (lo : Int) (n : Nat) (c : Int) : (rangeD lo n c).length = n := by simp [rangeD]
theorem rangeD_get {lo : Int} {n i : Nat} {c : Int} {d : D} (h : (rangeD lo n c)[i]? = some d) : d = .int (lo + (i : Nat) * c) ∧ i < n := by
  have hi : i < n := by have := (List.getElem?_eq_some_iff.mp h).1; rwa [rangeD_len] at this
  refine ⟨?_, hi⟩
  unfold rangeD at h
  rw [List.getElem?_map, List.getElem?_range hi] at h
  exact (Option.some.inj h).symm
theorem sim_rng {H1 : Hp} {lo : Int} {n : Nat} : Sim (qc X) H1 (Itr lo n) (rangeD lo n 1) [] where
  go := fun i H G s g _ h => by rw [rangeD_len] at h; exact h
  yld := fun i H G x H' s g _ y d e => by
    obtain ⟨z, f⟩ := y
    subst z f
    exact ⟨Stay.refl _, g, by rw [(rangeD_get e).1, Int.mul_one]; rfl⟩
  stop := fun H G s g _ => by rw [rangeD_len]; exact Nat.le_refl _
theorem sim_rngC {H1 : Hp} {lo c : Int} {n : Nat} : Sim (qc X) H1 (Itc lo c n) (rangeD lo n c) [] where
  go := fun i H G s g _ h => by rw [rangeD_len] at h; exact h
  yld := fun i H G x H' s g _ y d e => by
    obtain ⟨z, f⟩ := y
    subst z f
    exact ⟨Stay.refl _, g, by rw [(rangeD_get e).1]; rfl⟩
  stop := fun H G s g _ => by rw [rangeD_len]; exact Nat.le_refl _
def Lim (i : Int) : Prop := -(2 ^ 62) ≤ i ∧ i < 2 ^ 62
def qRng1 (t : TAd) : TId := fun ρ G Q => t ρ G fun ds G1 => match ds with
  | [.int j] => Lim j ∧ Q (rangeD 0 j.toNat 1) [] G1
  | _ => False
def qRng2 (t : TAd) : TId := fun ρ G Q => t ρ G fun ds G1 => match ds with
  | [.int i, .int j] => Lim i ∧ Lim j ∧ Q (rangeD i (j - i).toNat 1) [] G1
  | _ => False
def qRng3 (t : TAd) : TId := fun ρ G Q => t ρ G fun ds G1 => match ds with
  | [.int i, .int j, .int c] => ∃ n, RgC i j c n ∧ Q (rangeD i n c) [] G1
  | _ => False
theorem IsDs.three {K : PySem.W.Frag} {H : Hp} {d e f : D} {xs : List V} (h : IsDs K H [d, e, f] xs) : ∃ x y z, xs = [x, y, z] ∧ IsD K H d x ∧ IsD K H e y ∧ IsD K H f z := by
  obtain ⟨v, r, rfl, i, z⟩ := h
  obtain ⟨y, w, rfl, j, k⟩ := z.two
  exact ⟨v, y, w, rfl, i, j, k⟩
variable {a b c : Expr} {p pos : Pos} {t : TAd}
theorem qi_range1 (hg : Gl X "range") (hm : X.mg "range" = none) (ha : QA X [a] t) (hs : starEach [a] X.env = [(false, eval a X.env)] := by rfl) : QI X tg (.Call (.Name "range" p) [a] [] pos) (qRng1 t) := by
  refine pi_imp (pi_range1 hg hm ha hs) fun σ H R ⟨ρ, G, Q, r, h, k⟩ => ⟨ρ, G, _, r, h, fun xs H1 ds G1 s g i q => ?_⟩
  split at q
  · rename_i j
    obtain ⟨x, rfl, e⟩ := i.one
    exact ⟨j, by rw [show x = V.int j from e], q.1.1, q.1.2, k _ H1 _ _ G1 s g sim_rng trivial q.2⟩
  · exact q.elim
theorem qi_range2 (hg : Gl X "range") (hm : X.mg "range" = none) (ha : QA X [a, b] t) (hs : starEach [a, b] X.env = [(false, eval a X.env), (false, eval b X.env)] := by rfl) (hs2 : starEach [b] X.env = [(false, eval b X.env)] := by rfl) :
    QI X tg (.Call (.Name "range" p) [a, b] [] pos) (qRng2 t) := by
  refine pi_imp (pi_range2 hg hm ha hs hs2) fun σ H R ⟨ρ, G, Q, r, h, k⟩ => ⟨ρ, G, _, r, h, fun xs H1 ds G1 s g i q => ?_⟩
  split at q
  · rename_i j l
    obtain ⟨x, y, rfl, e, f⟩ := i.two
    exact ⟨j, l, by rw [show x = V.int j from e, show y = V.int l from f], ⟨q.1.1, q.1.2, q.2.1.1, q.2.1.2⟩, k _ H1 _ _ G1 s g sim_rng trivial q.2.2⟩
  · exact q.elim
theorem qi_range3 (hg : Gl X "range") (hm : X.mg "range" = none) (ha : QA X [a, b, c] t)
    (hs : starEach [a, b, c] X.env = (false, eval a X.env) :: starEach [b, c] X.env := by rfl) (hpl : (backTo pos (starEach [b, c] X.env)).any (·.1) = false := by rfl) : QI X tg (.Call (.Name "range" p) [a, b, c] [] pos) (qRng3 t) := by
  refine pi_imp (pi_range3 hg hm ha hs hpl) fun σ H R ⟨ρ, G, Q, r, h, k⟩ => ⟨ρ, G, _, r, h, fun xs H1 ds G1 s g i q => ?_⟩
  split at q
  · rename_i j l m
    obtain ⟨x, y, z, rfl, e, f, f2⟩ := i.three
    obtain ⟨n, q1, q2⟩ := q
    exact ⟨j, l, m, n, by rw [show x = V.int j from e, show y = V.int l from f, show z = V.int m from f2], q1, k _ H1 _ _ G1 s g sim_rngC trivial q2⟩
  · exact q.elim
end
/-! ### zip, enumerate over lists and tuples, in any mix -/
def sqK (k : Bool) (K : PySem.W.Frag) (H : Hp) (a : Addr) (xs : List V) : Prop := match k with | true => SqL K H a xs | false => SqT K H a xs
def itK (k : Bool) (h : Heap) (it a : Addr) (i : Nat) : Prop := match k with | true => h.IsListIter it a i | false => h.IsTupleIter it a i
def isK (k : Bool) (h : Heap) (a : Addr) (items : Array Value) : Prop := match k with | true => h.IsList a items | false => h.IsTuple a items
theorem itK_at {k : Bool} {h h' : Heap} {it a : Addr} {i : Nat} (x : itK k h it a i) (e : ∀ o, h.get? it = some o → h'.get? it = some o) : itK k h' it a i := by
  cases k
  · exact Heap.IsTupleIter.at x e
  · exact Heap.IsListIter.at x e
theorem itK_obj {k : Bool} {h : Heap} {it a : Addr} {i : Nat} (x : itK k h it a i) : ∃ o, h.get? it = some o ∧ ∀ v, o.data ≠ .cell v := by
  cases k
  · obtain ⟨o, e, _, d⟩ := x; exact ⟨o, e, fun v z => by rw [d] at z; cases z⟩
  · obtain ⟨o, e, _, d⟩ := x; exact ⟨o, e, fun v z => by rw [d] at z; cases z⟩
theorem drawsK {P : Program} {w : World} {A : Around} (k : Bool) (hh : A.handled = none) (it l : Addr) (hne : l ≠ it) (items : Array Value) :
    Draws P w A it [it, l] items.size (fun i v => items[i]? = some v) (fun i h => itK k h it l i ∧ isK k h l items) := by
  cases k
  · exact Draws.tuple hh it l hne items
  · exact Draws.list hh it l hne items
section
variable {X : Cx} {pins : List (Addr × Obj)} {σ : L2.St} {H : Hp} {s : Shared} {a : Addr} {xs ys : List V} {k : Bool}
theorem inv_sqK (I : Inv X pins σ H s) (h : sqK k X.K H a xs) : ∃ its : List Value, Vals xs its ∧ isK k s.heap a its.toArray ∧ xs.length ≤ sizeLine ∧ a < s.heap.objs.size := by
  cases k
  · obtain ⟨its, r, p, z⟩ := I.tuple h; exact ⟨its, r, p, z, p.lt⟩
  · obtain ⟨its, r, p, z⟩ := I.list h; exact ⟨its, r, p.isList, z, p.lt⟩
theorem inv_sqK_inj (I : Inv X pins σ H s) (h : sqK k X.K H a xs) (h' : sqK k X.K H a ys) : xs = ys := by
  cases k
  · exact I.tuple_inj h h'
  · exact I.list_inj h h'
def ItzK (k1 k2 : Bool) (K : PySem.W.Frag) (a b : Addr) : It :=
  ⟨fun i H => ∃ (xs ys : List V) (x y : V), sqK k1 K H a xs ∧ sqK k2 K H b ys ∧ xs[i]? = some x ∧ ys[i]? = some y,
    fun i H v H' => ∃ T x y, v = .ref T ∧ H T = none ∧ H' = upd H T (.tup [x, y]) ∧ (∀ xs, sqK k1 K H a xs → xs[i]? = some x) ∧ ∀ ys, sqK k2 K H b ys → ys[i]? = some y,
    fun i H => ∃ xs ys : List V, sqK k1 K H a xs ∧ sqK k2 K H b ys ∧ i = min xs.length ys.length⟩
theorem turn_zipK {P : Program} {w : World} {K : PySem.W.Frag} {elts : List Expr} {kk : Nat} {tpos : Pos} {a b z TI TO i1 i2 : Addr} (k1 k2 : Bool) (S : ZipSep2 z TI TO i1 i2 [i1, a] [i2, b]) (n1 : a ≠ i1) (n2 : b ≠ i2) :
    Turn P w K (.Tuple elts kk tpos) (ItzK k1 k2 K a b) [z, TI, TO, i1, i2] z (fun i h => IsZip h z TI TO .none ∧ IsTupOf2 h TI (.ref i1) (.ref i2) ∧ (∃ x y, IsTupOf2 h TO x y) ∧ itK k1 h i1 a i ∧ itK k2 h i2 b i) where
  mem := by simp
  obj := fun i h st c hc => by
    obtain ⟨hz, hTI, ⟨x, y, hTO⟩, h1, h2⟩ := st
    have e' : c = z ∨ c = TI ∨ c = TO ∨ c = i1 ∨ c = i2 := by simpa using hc
    rcases e' with q | q | q | q | q
    · rw [q]; exact ⟨_, hz, fun v q => nomatch q⟩
    · rw [q]; exact ⟨_, hTI, fun v q => nomatch q⟩
    · rw [q]; exact ⟨_, hTO, fun v q => nomatch q⟩
    · rw [q]; exact itK_obj h1
    · rw [q]; exact itK_obj h2
  keep := fun i h h' st k => by
    obtain ⟨hz, hTI, ⟨x, y, hTO⟩, h1, h2⟩ := st
    exact ⟨k z (by simp) _ hz, k TI (by simp) _ hTI, ⟨x, y, k TO (by simp) _ hTO⟩, itK_at h1 fun o q => k i1 (by simp) o q, itK_at h2 fun o q => k i2 (by simp) o q⟩
  item := by
    intro X hP hw hK hc i pins s σ H E I hf st hg
    subst hP hw hK
    obtain ⟨hz, hTI, ⟨x0, y0, hTO⟩, h1, h2⟩ := st
    obtain ⟨xs, ys, x, y, hqx, hqy, hx, hy⟩ := hg
    obtain ⟨its, rv, p, _, _⟩ := inv_sqK I hqx
    obtain ⟨its2, rv2, p2, _, _⟩ := inv_sqK I hqy
    obtain ⟨u, hu, ru⟩ := rv.get hx
    obtain ⟨u2, hu2, ru2⟩ := rv2.get hy
    have hzl : z < s.heap.objs.size := Heap.lt_size hz
    have hh : X.A.in1.handled = none := I.ok.hd hc
    have l1 : i < its.toArray.size := by have := (List.getElem?_eq_some_iff.mp hu).1; simpa using this
    have l2 : i < its2.toArray.size := by have := (List.getElem?_eq_some_iff.mp hu2).1; simpa using this
    refine wpAny_pyNext_zipD2_item S (drawsK k1 hh i1 a n1 its.toArray) (drawsK k2 hh i2 b n2 its2.toArray) hz hTI hTO ⟨h1, p⟩ ⟨h2, p2⟩ l1 l2 fun v1 v2 h' tk e1 e2 z' TO' st1 st2 hT hsz hk => ?_
    have w1 : u = v1 := by rw [List.getElem?_toArray] at e1; rw [hu] at e1; exact Option.some.inj e1
    have w2 : u2 = v2 := by rw [List.getElem?_toArray] at e2; rw [hu2] at e2; exact Option.some.inj e2
    subst w1 w2
    refine ⟨_, rfl, wpAny_letOwnedTupleGo_zip (s := { s with heap := h', toks := tk }) z' fun h'' z'' sb => ?_⟩
    have hT2 : h''.get? s.heap.objs.size = some { cls := .type "tuple", data := .seq #[u, u2] } := (sb.2 _ (Nat.ne_of_gt hzl)).trans hT
    have new : ObjOk X.prog X.w (upd H s.heap.objs.size (.tup [x, y])) h'' s.heap.objs.size (.tup [x, y]) :=
      ⟨by show 2 ≤ sizeLine; decide, [u, u2], .cons ru (.cons ru2 .nil), ⟨_, hT2, rfl, _, rfl⟩⟩
    have I1 : Inv X pins σ (upd H s.heap.objs.size (.tup [x, y])) { s with heap := h'', toks := tk } :=
      I.turnedNew (t' := tk) (ch := [z, TI, TO, i1, i2]) (fun c o hb q => (sb.2 c (fun q' => hb (by simp [q']))).trans (hk c o (fun q' => hb (by simp [q'])) (fun q' => hb (by simp [q'])) (fun q' => hb (by simp [q'])) (fun q' => hb (by simp [q'])) q)) hf (Nat.le_refl _) new
    refine ⟨.ref s.heap.objs.size, _, I1, rfl, ⟨_, x, y, rfl, I.hok.fresh (Nat.le_refl _), rfl, fun l hl => by rw [inv_sqK_inj I hl hqx]; exact hx, fun l hl => by rw [inv_sqK_inj I hl hqy]; exact hy⟩, ⟨z'', ?_, ⟨u, u2, ?_⟩, ?_, ?_⟩, fun c hcm => ?_⟩
    · exact (sb.2 _ S.TIz).trans (hk _ _ S.TIz S.TITO S.TIi1 S.TIi2 hTI)
    · exact (sb.2 _ S.TOz).trans TO'
    · exact itK_at st1.1 fun o q => (sb.2 _ (Ne.symm S.zi1)).trans q
    · exact itK_at st2.1 fun o q => (sb.2 _ (Ne.symm S.zi2)).trans q
    · have hlt : c < s.heap.objs.size := by
        have e' : c = z ∨ c = TI ∨ c = TO ∨ c = i1 ∨ c = i2 := by simpa using hcm
        rcases e' with q | q | q | q | q
        · rw [q]; exact hzl
        · rw [q]; exact Heap.lt_size hTI
        · rw [q]; exact Heap.lt_size hTO
        · rw [q]; obtain ⟨_, e1, _⟩ := itK_obj h1; exact Heap.lt_size e1
        · rw [q]; obtain ⟨_, e2, _⟩ := itK_obj h2; exact Heap.lt_size e2
      rw [upd_ne (Nat.ne_of_lt hlt)]
      exact (hf c hcm).1
  done := by
    intro X hP hw hK hc i pins s σ H E I hf st hg
    subst hP hw hK
    obtain ⟨hz, hTI, ⟨x0, y0, hTO⟩, h1, h2⟩ := st
    obtain ⟨xs, ys, hqx, hqy, hend⟩ := hg
    obtain ⟨its, rv, p, _, _⟩ := inv_sqK I hqx
    obtain ⟨its2, rv2, p2, _, _⟩ := inv_sqK I hqy
    have l1 := rv.length
    have l2 := rv2.length
    have hh : X.A.in1.handled = none := I.ok.hd hc
    refine wpAny_pyNext_zipD2_end S (drawsK k1 hh i1 a n1 its.toArray) (drawsK k2 hh i2 b n2 its2.toArray) hz hTI hTO ⟨h1, p⟩ ⟨h2, p2⟩ (by simp; omega) (by simp; omega) (by simp; omega) fun h' tk hk => ⟨rfl, I.turnedL (t' := tk) (ch := [z, TI, TO, i1, i2]) (fun c o hb q =>
      hk c o (fun q' => hb (by simp [q'])) (fun q' => hb (by simp [q'])) (fun q' => hb (by simp [q'])) (fun q' => hb (by simp [q'])) q) hf⟩
  self := fun A i s Q E st h => wpAny_pyIter_zip st.1 h
end
/-! ### any sequence -/
/-- the items of a tuple, a list, the script -/
def SeqOf (G : Gp) (d : D) (items : List D) : Prop := match d with
  | .tup ds => items = ds
  | .ref a => G a = some (.lst items)
  | .scr ns => items = ns.map D.int
  | _ => False
def kindOf : D → Bool
  | .tup _ => false
  | _ => true
theorem SeqOf.sq {X : Cx} {G : Gp} {H : Hp} {d : D} {items : List D} {v : V} (h : SeqOf G d items) (g : RG X.prog X.w X.K H G) (i : IsD X.K H d v) : ∃ a xs, v = .ref a ∧ sqK (kindOf d) X.K H a xs ∧ IsDs X.K H items xs := by
  cases d with
  | tup ds => obtain ⟨a, xs, e, q, r⟩ := i; exact ⟨a, xs, e, q, by rw [show items = ds from h]; exact r⟩
  | ref a => obtain ⟨xs, q, r⟩ := g a _ h; exact ⟨a, xs, i, .inl (.inl q), r⟩
  | scr ns => obtain ⟨a, e, q⟩ := i; exact ⟨a, _, e, q.sqL, by rw [show items = ns.map D.int from h]; exact IsDs.of_ints⟩
  | _ => exact h.elim
def glOf (d : D) (xs : List D) : List (Addr × O) := match d with
  | .ref a => [(a, .lst xs)]
  | _ => []
theorem SeqOf.gl {G : Gp} {d : D} {xs : List D} (h : SeqOf G d xs) : GOf (glOf d xs) G := by
  cases d with
  | ref a => exact ⟨h, trivial⟩
  | _ => trivial
theorem SeqOf.keep {G G1 : Gp} {d : D} {xs : List D} (h : SeqOf G d xs) (g : GOf (glOf d xs) G1) : SeqOf G1 d xs := by
  cases d with
  | ref a => exact g.1
  | tup ds => exact h
  | scr ns => exact h
  | _ => exact h.elim
def qSeqI (te : TEd) : TId := fun ρ G Q => te ρ G fun d G1 => ∃ xs, SeqOf G1 d xs ∧ Q xs (glOf d xs) G1
section
variable {X : Cx} {tg e : Expr} {te : TEd}
def iSeq (K : PySem.W.Frag) (tl : TE) : TI := fun σ H R => tl σ H fun x H1 => ∃ a, x = .ref a ∧ ((∃ xs, SqL K H1 a xs) ∧ R (Itl K a) H1 ∨ (∃ xs, SqT K H1 a xs) ∧ R (Itt K a) H1)
theorem pi_seq {l : Expr} {tl : TE} (hl : PE X l tl) : PI X tg l (iSeq X.K tl) := by
  refine ⟨fun pins s σ H R I h => ?_⟩
  refine thn (hl.run pins s σ H _ I h) fun v s1 ⟨x, H1, I1, r1, q1⟩ => ?_
  obtain ⟨a, e, q1⟩ := q1
  subst e
  cases r1
  have one : ∀ b, b ∈ [s1.heap.objs.size] → FpOk X pins H1 b := fun b hb => by
    have e : b = s1.heap.objs.size := by simpa using hb
    subst e
    exact I1.fpOk (Nat.le_refl _) (I1.hok.fresh (Nat.le_refl _))
  rcases q1 with ⟨⟨xs, hq⟩, q⟩ | ⟨⟨xs, hq⟩, q⟩
  · obtain ⟨its, rv, p, hz⟩ := I1.list hq
    refine wpAny_pyIter_list p.isList ?_
    exact ⟨s1.heap.objs.size, [s1.heap.objs.size], _, _, H1, rfl, I1.kept (t' := s1.toks) fun b o e => Heap.get?_push_of_some _ e, turn_list a _, ⟨_, Heap.get?_push_size _ rfl, rfl, rfl⟩, one, q⟩
  · obtain ⟨its, rv, p, hz⟩ := I1.tuple hq
    refine wpAny_pyIter_tuple (show s1.heap.IsTuple a its.toArray from p) ?_
    exact ⟨s1.heap.objs.size, [s1.heap.objs.size], _, _, H1, rfl, I1.kept (t' := s1.toks) fun b o e => Heap.get?_push_of_some _ e, turn_tuple a _, ⟨_, Heap.get?_push_size _ rfl, rfl, rfl⟩, one, q⟩
theorem qi_seq (h : QE X e te) : QI X tg e (qSeqI te) := by
  refine pi_imp (pi_seq h) fun σ H R ⟨ρ, G, Q, r, h, k⟩ => up_on r h fun v H1 d G1 s g i q => ?_
  obtain ⟨items, q1, q⟩ := q
  cases d with
  | ref a =>
    obtain ⟨xs, z, _⟩ := g a _ q1
    exact ⟨a, i, .inl ⟨⟨xs, .inl (.inl z)⟩, k _ H1 items _ G1 s g sim_lst q1.gl q⟩⟩
  | scr ns =>
    obtain ⟨a, rfl, z⟩ := i
    have e : items = ns.map D.int := q1
    subst e
    exact ⟨a, rfl, .inl ⟨⟨_, z.sqL⟩, k _ H1 _ _ G1 s g (sim_scr z) trivial q⟩⟩
  | tup ds =>
    obtain ⟨a, xs, rfl, z, w⟩ := i
    have e : items = ds := q1
    subst e
    exact ⟨a, rfl, .inr ⟨⟨_, z⟩, k _ H1 _ _ G1 s g (sim_tup z w) trivial q⟩⟩
  | _ => exact q1.elim
/-! zip -/
def zipD (xs ys : List D) : List D := List.zipWith (fun a b => .tup [a, b]) xs ys
theorem zipD_len (xs ys : List D) : (zipD xs ys).length = min xs.length ys.length := by simp [zipD]
theorem zipD_get {xs ys : List D} {i : Nat} {d : D} (h : (zipD xs ys)[i]? = some d) : ∃ x y, d = .tup [x, y] ∧ xs[i]? = some x ∧ ys[i]? = some y := by
  unfold zipD at h
  rw [List.getElem?_zipWith] at h
  cases e1 : xs[i]? with
  | none => rw [e1] at h; simp at h
  | some x =>
    cases e2 : ys[i]? with
    | none => rw [e1, e2] at h; simp at h
    | some y => rw [e1, e2] at h; simp at h; exact ⟨x, y, h.symm, rfl, rfl⟩
theorem stay_sqK {K : PySem.W.Frag} {H : Hp} {T : Addr} {vs : List V} (hT : H T = none) : Stay H (upd H T (.tup vs)) := Stay.new hT
theorem sim_zip {H1 : Hp} {a b : Addr} {x y : D} {xs ys : List D} (ix : IsD X.K H1 x (.ref a)) (iy : IsD X.K H1 y (.ref b)) {G1 : Gp} (qx : SeqOf G1 x xs) (qy : SeqOf G1 y ys) : Sim (qc X) H1 (ItzK (kindOf x) (kindOf y) X.K a b) (zipD xs ys) (glOf x xs ++ glOf y ys) where
  go := fun i H G s g q h => by
    obtain ⟨a', us, e1, q1, r1⟩ := (qx.keep q.app.1).sq g (ix.stay s)
    obtain ⟨b', vs, e2, q2, r2⟩ := (qy.keep q.app.2).sq g (iy.stay s)
    cases e1; cases e2
    rw [zipD_len] at h
    obtain ⟨u, hu⟩ := r1.some (i := i) (by omega)
    obtain ⟨v, hv⟩ := r2.some (i := i) (by omega)
    exact ⟨us, vs, u, v, q1, q2, hu, hv⟩
  yld := fun i H G v H' s g q yl d e => by
    obtain ⟨T, u, w, rfl, hT, rfl, f1, f2⟩ := yl
    obtain ⟨a', us, e1, q1, r1⟩ := (qx.keep q.app.1).sq g (ix.stay s)
    obtain ⟨b', vs, e2, q2, r2⟩ := (qy.keep q.app.2).sq g (iy.stay s)
    cases e1; cases e2
    obtain ⟨dx, dy, rfl, ex, ey⟩ := zipD_get e
    have st : Stay H (upd H T (.tup [u, w])) := Stay.new hT
    exact ⟨st, g.new hT, T, [u, w], rfl, .inl (.inl upd_same), u, [w], rfl, (r1.yld (f1 _ q1) ex).stay st, w, [], rfl, (r2.yld (f2 _ q2) ey).stay st, rfl⟩
  stop := fun H G s g q => by
    obtain ⟨a', us, e1, q1, r1⟩ := (qx.keep q.app.1).sq g (ix.stay s)
    obtain ⟨b', vs, e2, q2, r2⟩ := (qy.keep q.app.2).sq g (iy.stay s)
    cases e1; cases e2
    exact ⟨us, vs, q1, q2, by rw [zipD_len, r1.length, r2.length]⟩
def qZipI (t : TAd) : TId := fun ρ G Q => t ρ G fun ds G1 => match ds with
  | [x, y] => ∃ xs ys, SeqOf G1 x xs ∧ SeqOf G1 y ys ∧ Q (zipD xs ys) (glOf x xs ++ glOf y ys) G1
  | _ => False
def iZipK (K : PySem.W.Frag) (ta : TA) : TI := fun σ H R => ta σ H fun vs H1 => ∃ k1 k2 a b xs ys, vs = [.ref a, .ref b] ∧ sqK k1 K H1 a xs ∧ sqK k2 K H1 b ys ∧ R (ItzK k1 k2 K a b) H1
theorem isK_begins (k : Bool) (a : Addr) (items : Array Value) : Begins (.ref a) { cls := .type (if k then "list_iterator" else "tuple_iterator"), data := .fields #[.ref a, .int 0 0] } fun h => isK k h a items := by
  cases k
  · exact begins_tuple a items
  · exact begins_list a items
theorem itK_new {k : Bool} {h : Heap} {it a : Addr} (e : h.get? it = some { cls := .type (if k then "list_iterator" else "tuple_iterator"), data := .fields #[.ref a, .int 0 0] }) : itK k h it a 0 := by
  cases k
  · exact ⟨_, e, rfl, rfl⟩
  · exact ⟨_, e, rfl, rfl⟩
theorem one_lt {a n : Nat} (h : a < n) : ∀ c ∈ [a], c < n := fun c hc => by
  have e : c = a := by simpa using hc
  rw [e]; exact h
theorem pi_zipK {e e2 : Expr} {ta : TA} {p pos tpos : Pos} {elts : List Expr} {kk : Nat} (hg : Gl X "zip") (hm : X.mg "zip" = none) (ha : PA X [e, e2] ta)
    (hs : starEach [e, e2] X.env = (false, eval e X.env) :: starEach [e2] X.env := by rfl) (hpl : (backTo pos (starEach [e2] X.env)).any (·.1) = false := by rfl) :
    PI X (.Tuple elts kk tpos) (.Call (.Name "zip" p) [e, e2] [] pos) (iZipK X.K ta) := by
  refine ⟨fun pins s σ H R I h => ?_⟩
  refine Call_ (ld_blt I hg hm PyProof.Rows.boot_zip (PyProof.Rows.callWith_type1 (thn (ha.run pos pins s σ H _ I h) fun us s1 ⟨vs, H1, I1, r1, q1⟩ => ?_) hs hpl))
  obtain ⟨k1, k2, a, b, xs, ys, ex, hqx, hqy, q⟩ := q1
  subst ex
  cases r1 with
  | cons r rr =>
    cases rr with
    | cons r' rr =>
      cases rr
      cases r
      cases r'
      have fresh5 : ∀ c, c ∈ [s1.heap.objs.size + 4, s1.heap.objs.size + 2, s1.heap.objs.size + 3, s1.heap.objs.size, s1.heap.objs.size + 1] → FpOk X pins H1 c := fun c hcm => by
        have e' : c = s1.heap.objs.size + 4 ∨ c = s1.heap.objs.size + 2 ∨ c = s1.heap.objs.size + 3 ∨ c = s1.heap.objs.size ∨ c = s1.heap.objs.size + 1 := by simpa using hcm
        have hle : s1.heap.objs.size ≤ c := by
          rcases e' with z | z | z | z | z
          · rw [z]; exact Nat.le_add_right _ _
          · rw [z]; exact Nat.le_add_right _ _
          · rw [z]; exact Nat.le_add_right _ _
          · rw [z]; exact Nat.le_refl _
          · rw [z]; exact Nat.le_add_right _ _
        exact I1.fpOk hle (I1.hok.fresh hle)
      obtain ⟨its, rv, p1, _, la⟩ := inv_sqK I1 hqx
      obtain ⟨its2, rv2, p2, _, lb⟩ := inv_sqK I1 hqy
      refine zip_begins2 (isK_begins k1 a its.toArray) (isK_begins k2 b its2.toArray) p1 p2 fun h' hz hTI hTO h1 h2 hsz hk => wpAny_pyIter_zip hz ?_
      have I2 : Inv X pins σ H1 { s1 with heap := h' } := I1.kept (t' := s1.toks) hk
      refine ⟨s1.heap.objs.size + 4, [s1.heap.objs.size + 4, s1.heap.objs.size + 2, s1.heap.objs.size + 3, s1.heap.objs.size, s1.heap.objs.size + 1], _, _, H1, rfl, I2, turn_zipK k1 k2 (zip_sep2 (fp1 := [a]) (fp2 := [b]) (one_lt la) (one_lt lb)) (Nat.ne_of_lt la) (Nat.ne_of_lt (Nat.lt_of_lt_of_le lb (Nat.le_add_right _ _))), ⟨hz, hTI, ⟨_, _, hTO⟩, itK_new h1, itK_new h2⟩, fresh5, q⟩
theorem qi_zip {e e2 : Expr} {t : TAd} {p pos tpos : Pos} {elts : List Expr} {kk : Nat} (hg : Gl X "zip") (hm : X.mg "zip" = none) (ha : QA X [e, e2] t)
    (hs : starEach [e, e2] X.env = (false, eval e X.env) :: starEach [e2] X.env := by rfl) (hpl : (backTo pos (starEach [e2] X.env)).any (·.1) = false := by rfl) :
    QI X (.Tuple elts kk tpos) (.Call (.Name "zip" p) [e, e2] [] pos) (qZipI t) := by
  refine pi_imp (pi_zipK hg hm ha hs hpl) fun σ H R ⟨ρ, G, Q, r, h, k⟩ => ⟨ρ, G, _, r, h, fun vs H1 ds G1 s g i q => ?_⟩
  split at q
  · rename_i x y
    obtain ⟨u, v, rfl, ix, iy⟩ := i.two
    obtain ⟨xs, ys, q1, q2, q⟩ := q
    obtain ⟨a, us, rfl, z1, r1⟩ := q1.sq g ix
    obtain ⟨b, ws, rfl, z2, r2⟩ := q2.sq g iy
    exact ⟨_, _, a, b, us, ws, rfl, z1, z2, k _ H1 _ _ G1 s g (sim_zip ix iy q1 q2) (q1.gl.mk q2.gl) q⟩
  · exact q.elim
end
end TL
end
section
set_option Elab.async false
set_option linter.all false
set_option maxRecDepth 100000
set_option maxHeartbeats 4000000
namespace PySem
open Sem (wp)
open AutoSeq1 (wpAny_loadPart')
theorem meets_enumerate_newB1 {v : Value} {o : Obj} {H : Heap → Prop} (B : Begins v o H) :
    Meets (Builtin.«enumerate.__new__» ⟨[.type "enumerate", v], []⟩) (fun _ R s => H s.heap ∧
      R (.ok (.ret (.ref (s.heap.push o).objs.size))) { s with heap := (s.heap.push o).push { cls := .type "enumerate", data := .fields #[.none, .bool false, .ref s.heap.objs.size, rawInt 0, .none, .none] } }) :=
  .of_wp fun prog w A R s h => by
    obtain ⟨hp, g, d, tk, os⟩ := s; obtain ⟨h1, h⟩ := h
    have hsub := sub_enumerate
    have q1 : ∀ {A' : Around} {E : Value → Shared → Prop} {Q : Value → Shared → Prop}, Q (.ref hp.objs.size) ⟨hp.push o, g, d, tk, os⟩ → wpAny (model prog w) A' (pyIter v) Q E ⟨hp, g, d, tk, os⟩ :=
      fun q => B.iter prog w _ _ ⟨hp, g, d, tk, os⟩ _ h1 q
    wp_walk using q1
    refine wpAny_stack_any fun st => wpAny_pure ?_
    split
    · rename_i c _ _ _ _ _
      cases (c == Value.type "enumerate")
      · wp_walk using q1
        exact ⟨_, rfl, h⟩
      · wp_walk using q1
        exact ⟨_, rfl, h⟩
    · wp_walk using q1
      exact ⟨_, rfl, h⟩
theorem enum_begins1 {prog : Program} {w : World} {A : Around} {E : Value → Shared → Prop} {s : Shared} {v : Value} {o : Obj} {H : Heap → Prop} {Q : Value → Shared → Prop} (B : Begins v o H) (h1 : H s.heap)
    (h : ∀ h', IsEnum h' (s.heap.objs.size + 1) s.heap.objs.size 0 .none → h'.get? s.heap.objs.size = some o → h'.objs.size = s.heap.objs.size + 2 →
      (∀ b o, s.heap.get? b = some o → h'.get? b = some o) → Q (.ref (s.heap.objs.size + 1)) { s with heap := h' }) :
    wpAny (model prog w) A (call (.type "enumerate") [v]) Q E s := by
  refine callType_new F.called_enumerate (by decide) (F.typeCall_enumerate_1 _) (F.newCall_enumerate_1 _) (fun obj => F.args_object_init_2 obj _) F.entry_enumerate_new
    (meets_enumerate_newB1 B) ⟨h1, ?_⟩
  have hz : (s.heap.push o).objs.size = s.heap.objs.size + 1 := Heap.size_push ..
  show _ ∧ _
  rw [hz]
  have he : IsEnum ((s.heap.push o).push { cls := .type "enumerate", data := .fields #[.none, .bool false, .ref s.heap.objs.size, rawInt 0, .none, .none] }) (s.heap.objs.size + 1) s.heap.objs.size 0 .none := by
    have := Heap.get?_push_size (s.heap.push o) (o := { cls := .type "enumerate", data := .fields #[.none, .bool false, .ref s.heap.objs.size, rawInt 0, .none, .none] }) rfl
    rw [hz] at this; exact this
  refine ⟨⟨_, he, rfl⟩, h _ he (Heap.get?_push_of_some _ (Heap.get?_push_size _ B.free)) (by rw [Heap.size_push, hz]) fun b o x => Heap.get?_push_of_some _ (Heap.get?_push_of_some _ x)⟩
end PySem
namespace TL
open PySem PySem.Spec PyProof.Rows L2
/-! ### enumerate -/
def IteK (k : Bool) (K : PySem.W.Frag) (a : Addr) : It :=
  ⟨fun i H => ∃ (xs : List V) (x : V), sqK k K H a xs ∧ xs[i]? = some x, fun i H v H' => ∃ T x, v = .ref T ∧ H T = none ∧ H' = upd H T (.tup [.int (i : Nat), x]) ∧ ∀ xs, sqK k K H a xs → xs[i]? = some x, fun i H => ∃ xs : List V, sqK k K H a xs ∧ xs.length = i⟩
theorem turn_enumK {P : Program} {w : World} {K : PySem.W.Frag} {elts : List Expr} {kk : Nat} {tpos : Pos} (k : Bool) (a e it : Addr) (n1 : a ≠ it) (n2 : e ∉ [it, a]) :
    Turn P w K (.Tuple elts kk tpos) (IteK k K a) [e, it] e (fun i h => (∃ old, IsEnum h e it ((i : Nat) : Int) old) ∧ itK k h it a i ∧ e ≠ it) where
  mem := by simp
  obj := fun i h st b hb => by
    obtain ⟨⟨old, he⟩, hi, _⟩ := st
    have e' : b = e ∨ b = it := by simpa using hb
    rcases e' with z | z
    · rw [z]; exact ⟨_, he, fun v q => nomatch q⟩
    · rw [z]; exact itK_obj hi
  keep := fun i h h' st k => let ⟨⟨old, he⟩, hi, hne⟩ := st; ⟨⟨old, k e (by simp) _ he⟩, itK_at hi fun o q => k it (by simp) o q, hne⟩
  item := by
    intro X hP hw hK hc i pins s σ H E I hf st hg
    subst hP hw hK
    obtain ⟨⟨old, he⟩, hit, hne⟩ := st
    obtain ⟨xs, x, hq, hx⟩ := hg
    obtain ⟨its, rv, p, hz, _⟩ := inv_sqK I hq
    obtain ⟨u, hu, ru⟩ := rv.get hx
    have hel : e < s.heap.objs.size := Heap.lt_size he
    have hil : it < s.heap.objs.size := by obtain ⟨_, q, _⟩ := itK_obj hit; exact Heap.lt_size q
    have hh : X.A.in1.handled = none := I.ok.hd hc
    have l1 : i < its.toArray.size := by have := (List.getElem?_eq_some_iff.mp hu).1; simpa using this
    refine wpAny_pyNext_enum_itemD (drawsK k hh it a n1 its.toArray) he ⟨hit, p⟩ l1 hne n2 fun v h' tk e1 ho st1 hT hsz hk => ?_
    have w1 : u = v := by rw [List.getElem?_toArray] at e1; rw [hu] at e1; exact Option.some.inj e1
    subst w1
    refine ⟨_, rfl, wpAny_letOwnedTupleGo_enum (s := { s with heap := h', toks := tk + 1 }) ho fun h'' he' sb => ?_⟩
    have hT2 : h''.get? s.heap.objs.size = some { cls := .type "tuple", data := .seq #[.int i tk, u] } := (sb.2 _ (Nat.ne_of_gt hel)).trans hT
    have new : ObjOk X.prog X.w (upd H s.heap.objs.size (.tup [.int (i : Nat), x])) h'' s.heap.objs.size (.tup [.int (i : Nat), x]) :=
      ⟨by show 2 ≤ sizeLine; decide, [.int i tk, u], .cons ⟨_, rfl⟩ (.cons ru .nil), ⟨_, hT2, rfl, _, rfl⟩⟩
    have I1 : Inv X pins σ (upd H s.heap.objs.size (.tup [.int (i : Nat), x])) { s with heap := h'', toks := tk + 1 } :=
      I.turnedNew (ch := [e, it]) (fun b ob hb q => (sb.2 b (fun z => hb (by simp [z]))).trans (hk b ob (fun z => hb (by simp [z])) (fun z => hb (by simp [z])) q)) hf (Nat.le_refl _) new
    refine ⟨.ref s.heap.objs.size, _, I1, rfl, ⟨_, x, rfl, I.hok.fresh (Nat.le_refl _), rfl, fun ys hy => by rw [inv_sqK_inj I hy hq]; exact hx⟩, ⟨⟨u, ?_⟩, itK_at st1.1 fun o q => (sb.2 it (Ne.symm hne)).trans q, hne⟩, fun b hb => ?_⟩
    · have e1 : ((i + 1 : Nat) : Int) = (i : Int) + 1 := by omega
      rw [e1]; exact he'
    · have hb' : b < s.heap.objs.size := by
        have e' : b = e ∨ b = it := by simpa using hb
        rcases e' with z | z
        · rw [z]; exact hel
        · rw [z]; exact hil
      rw [upd_ne (Nat.ne_of_lt hb')]
      exact (hf b hb).1
  done := by
    intro X hP hw hK hc i pins s σ H E I hf st hg
    subst hP hw hK
    obtain ⟨⟨old, he⟩, hit, hne⟩ := st
    obtain ⟨xs, hq, hx⟩ := hg
    obtain ⟨its, rv, p, hz, _⟩ := inv_sqK I hq
    obtain ⟨f0, f1, f2, f3, f4, f5⟩ := hf it (by simp)
    have hl := rv.length
    have hh : X.A.in1.handled = none := I.ok.hd hc
    have hn : i = its.toArray.size := by simp; omega
    subst hn
    exact wpAny_pyNext_enum_endD (drawsK k hh it a n1 its.toArray) he ⟨hit, p⟩ fun h' eb => ⟨rfl, I.turned (t' := s.toks) (fun b o hb q => eb b o hb q) f0 f1 f3 f4 f5⟩
  self := fun A i s Q E st h => let ⟨⟨_, he⟩, _⟩ := st; wpAny_pyIter_enum he h
section
variable {X : Cx} {e : Expr} {te : TEd}
def enumD (xs : List D) : List D := (List.range xs.length).map fun i => .tup [.int (i : Nat), xs.getD i .non]
theorem enumD_len (xs : List D) : (enumD xs).length = xs.length := by simp [enumD]
theorem enumD_get {xs : List D} {i : Nat} {d : D} (h : (enumD xs)[i]? = some d) : ∃ x, d = .tup [.int (i : Nat), x] ∧ xs[i]? = some x := by
  have hi : i < xs.length := by have := (List.getElem?_eq_some_iff.mp h).1; rwa [enumD_len] at this
  unfold enumD at h
  rw [List.getElem?_map, List.getElem?_range hi] at h
  refine ⟨xs[i], ?_, List.getElem?_eq_getElem hi⟩
  rw [← Option.some.inj h]
  simp [List.getD, hi]
theorem sim_enum {H1 : Hp} {a : Addr} {x : D} {xs : List D} (ix : IsD X.K H1 x (.ref a)) {G1 : Gp} (qx : SeqOf G1 x xs) : Sim (qc X) H1 (IteK (kindOf x) X.K a) (enumD xs) (glOf x xs) where
  go := fun i H G s g q h => by
    obtain ⟨a', us, e1, q1, r1⟩ := (qx.keep q).sq g (ix.stay s)
    cases e1
    rw [enumD_len] at h
    obtain ⟨u, hu⟩ := r1.some h
    exact ⟨us, u, q1, hu⟩
  yld := fun i H G v H' s g q yl d e => by
    obtain ⟨T, u, rfl, hT, rfl, f1⟩ := yl
    obtain ⟨a', us, e1, q1, r1⟩ := (qx.keep q).sq g (ix.stay s)
    cases e1
    obtain ⟨dx, rfl, ex⟩ := enumD_get e
    have st : Stay H (upd H T (.tup [.int (i : Nat), u])) := Stay.new hT
    exact ⟨st, g.new hT, T, [.int (i : Nat), u], rfl, .inl (.inl upd_same), .int (i : Nat), [u], rfl, rfl, u, [], rfl, (r1.yld (f1 _ q1) ex).stay st, rfl⟩
  stop := fun H G s g q => by
    obtain ⟨a', us, e1, q1, r1⟩ := (qx.keep q).sq g (ix.stay s)
    cases e1
    exact ⟨us, q1, by rw [enumD_len, r1.length]⟩
def qEnumI (t : TAd) : TId := fun ρ G Q => t ρ G fun ds G1 => match ds with
  | [d] => ∃ xs, SeqOf G1 d xs ∧ Q (enumD xs) (glOf d xs) G1
  | _ => False
def iEnumK (K : PySem.W.Frag) (ta : TA) : TI := fun σ H R => ta σ H fun vs H1 => ∃ k a xs, vs = [.ref a] ∧ sqK k K H1 a xs ∧ R (IteK k K a) H1
theorem pi_enumK {ta : TA} {p pos tpos : Pos} {elts : List Expr} {kk : Nat} (hg : Gl X "enumerate") (hm : X.mg "enumerate" = none) (ha : PA X [e] ta) (hs : starEach [e] X.env = [(false, eval e X.env)] := by rfl) :
    PI X (.Tuple elts kk tpos) (.Call (.Name "enumerate" p) [e] [] pos) (iEnumK X.K ta) := by
  refine ⟨fun pins s σ H R I h => ?_⟩
  refine Call_ (ld_blt I hg hm boot_enumerate (PyProof.Rows.callWith_type1 (thn (ha.run pos pins s σ H _ I h) fun us s1 ⟨vs, H1, I1, r1, q1⟩ => ?_) hs rfl))
  obtain ⟨k, a, xs, ex, hq, q⟩ := q1
  subst ex
  cases r1 with
  | cons r rr =>
    cases rr
    cases r
    obtain ⟨its, rv, p', hz, la⟩ := inv_sqK I1 hq
    refine enum_begins1 (isK_begins k a its.toArray) p' fun h' he hit hsz hk => wpAny_pyIter_enum he ?_
    have I2 : Inv X pins σ H1 { s1 with heap := h' } := I1.kept (t' := s1.toks) hk
    refine ⟨s1.heap.objs.size + 1, [s1.heap.objs.size + 1, s1.heap.objs.size], _, _, H1, rfl, I2, turn_enumK k a (s1.heap.objs.size + 1) s1.heap.objs.size (Nat.ne_of_lt la) ?_, ⟨⟨.none, he⟩, itK_new hit, Nat.succ_ne_self _⟩, fun b hb => ?_, q⟩
    · intro hm
      have : s1.heap.objs.size + 1 = s1.heap.objs.size ∨ s1.heap.objs.size + 1 = a := by simpa using hm
      rcases this with z | z
      · exact Nat.succ_ne_self _ z
      · exact absurd (z ▸ la) (by exact Nat.not_lt.mpr (Nat.le_add_right _ _))
    have e' : b = s1.heap.objs.size + 1 ∨ b = s1.heap.objs.size := by simpa using hb
    have hle : s1.heap.objs.size ≤ b := by
      rcases e' with z | z
      · rw [z]; exact Nat.le_add_right _ _
      · rw [z]; exact Nat.le_refl _
    exact I1.fpOk hle (I1.hok.fresh hle)
theorem qi_enum {t : TAd} {p pos tpos : Pos} {elts : List Expr} {kk : Nat} (hg : Gl X "enumerate") (hm : X.mg "enumerate" = none) (ha : QA X [e] t) (hs : starEach [e] X.env = [(false, eval e X.env)] := by rfl) :
    QI X (.Tuple elts kk tpos) (.Call (.Name "enumerate" p) [e] [] pos) (qEnumI t) := by
  refine pi_imp (pi_enumK hg hm ha hs) fun σ H R ⟨ρ, G, Q, r, h, k⟩ => ⟨ρ, G, _, r, h, fun vs H1 ds G1 s g i q => ?_⟩
  split at q
  · rename_i d
    obtain ⟨v, rfl, iv⟩ := i.one
    obtain ⟨xs, q1, q⟩ := q
    obtain ⟨a, us, rfl, z1, r1⟩ := q1.sq g iv
    exact ⟨_, a, us, rfl, z1, k _ H1 _ _ G1 s g (sim_enum iv q1) q1.gl q⟩
  · exact q.elim
end
end TL
end
section
set_option Elab.async false
set_option linter.all false
set_option maxRecDepth 100000
set_option maxHeartbeats 4000000
namespace TL
open PySem PySem.Spec PyProof.Rows L2
section
variable {X : Cx} {st : Stmt} {rest sts : List Stmt} {t u : TSd} {e : Expr} {te : TEd} {pos : Pos}
/-! ### blocks, small statements -/
def qNext : TSd := fun E ρ G => E.nx ρ G
def qSeq (t u : TSd) : TSd := fun E ρ G => t { E with nx := u E } ρ G
theorem qss_nil : QSs X [] qNext := pss_imp pss_nil fun F σ H ⟨ρ, G, E, r, h, k⟩ => k.nx σ H ρ G (Stay.refl H) r h
theorem qss_cons (h1 : QS X st t) (h2 : QSs X rest u) : QSs X (st :: rest) (qSeq t u) := by
  refine pss_imp (pss_cons h1 h2) fun F σ H ⟨ρ, G, E, r, h, k⟩ => ⟨ρ, G, { E with nx := u E }, r, h, ⟨fun σ1 H1 ρ1 G1 s r1 q => ?_, k.rt, k.bk, k.ct⟩⟩
  exact ⟨ρ1, G1, E, r1, q, k.to s⟩
theorem qss_one (h1 : QS X st t) : QSs X [st] t := pss_one h1
def qBreak : TSd := fun E ρ G => E.bk ρ G
def qCont : TSd := fun E ρ G => E.ct ρ G
theorem qs_pass : QS X (.Pass pos) qNext := ps_imp ps_pass fun F σ H ⟨ρ, G, E, r, h, k⟩ => k.nx σ H ρ G (Stay.refl H) r h
theorem qs_break : QS X (.Break pos) qBreak := ps_imp ps_break fun F σ H ⟨ρ, G, E, r, h, k⟩ => k.bk σ H ρ G (Stay.refl H) r h
theorem qs_continue : QS X (.Continue pos) qCont := ps_imp ps_continue fun F σ H ⟨ρ, G, E, r, h, k⟩ => k.ct σ H ρ G (Stay.refl H) r h
def qDrop (te : TEd) : TSd := fun E ρ G => te ρ G fun _ G1 => E.nx ρ G1
theorem qs_expr (he : QE X e te) (hs : swapsWith e none pos.line X.env = pure false := by rfl) : QS X (.Expr e pos) (qDrop te) :=
  ps_imp (ps_expr he hs) fun F σ H ⟨ρ, G, E, r, h, k⟩ => up_on r h fun v H1 d G1 s g i q => k.nx σ H1 ρ G1 s (r.to s g) q
def qRet (te : TEd) : TSd := fun E ρ G => te ρ G E.rt
theorem qs_ret (he : QE X e te) : QS X (.Return (some e) pos) (qRet te) :=
  ps_imp (ps_ret he) fun F σ H ⟨ρ, G, E, r, h, k⟩ => up_on r h fun v H1 d G1 s g i q => k.rt v H1 d G1 s g i q
def qRetN : TSd := fun E _ G => E.rt .non G
theorem qs_retN : QS X (.Return none pos) qRetN := ps_imp ps_retN fun F σ H ⟨ρ, G, E, r, h, k⟩ => k.rt .non H .non G (Stay.refl H) r.rg rfl h
def qIfS (c : TTd) (t u : TSd) : TSd := fun E ρ G => c ρ G fun b G1 => Br b (t E ρ G1) (u E ρ G1)
theorem qs_if {c : Expr} {a b : List Stmt} {tc : TTd} (hc : QT X c tc) (ha : QSs X a t) (hb : QSs X b u) : QS X (.If c a b pos) (qIfS tc t u) := by
  refine ps_imp (ps_if hc ha hb) fun F σ H ⟨ρ, G, E, r, h, k⟩ => ⟨ρ, G, _, r, h, fun b H1 G1 s g q => Br.ite ?_⟩
  exact ⟨fun e => ⟨ρ, G1, E, r.to s g, q.1 e, k.to s⟩, fun e => ⟨ρ, G1, E, r.to s g, q.2 e, k.to s⟩⟩
def qNever : TSd := fun _ _ _ => False
theorem qs_never : QS X st qNever := ps_imp ps_never fun F σ H ⟨_, _, _, _, h, _⟩ => h.elim
theorem qss_never : QSs X sts qNever := pss_imp pss_never fun F σ H ⟨_, _, _, _, h, _⟩ => h.elim
end
/-! ### targets -/
abbrev TGd := D → Sd → Gp → (Sd → Gp → Prop) → Prop
abbrev TGsd := List D → Sd → Gp → (Sd → Gp → Prop) → Prop
def upG (X : Cq) (g : TGd) : TG := fun v σ H R => ∃ d ρ G Q, Rel X ρ G σ H ∧ IsD X.K H d v ∧ g d ρ G Q ∧ ∀ σ1 H1 ρ1 G1, Stay H H1 → Rel X ρ1 G1 σ1 H1 → Q ρ1 G1 → R σ1 H1
def upGs (X : Cq) (g : TGsd) : TGs := fun vs σ H R => ∃ ds ρ G Q, Rel X ρ G σ H ∧ IsDs X.K H ds vs ∧ g ds ρ G Q ∧ ∀ σ1 H1 ρ1 G1, Stay H H1 → Rel X ρ1 G1 σ1 H1 → Q ρ1 G1 → R σ1 H1
abbrev QG (X : Cx) (tg : Expr) (g : TGd) : Prop := PG X tg (upG (qc X) g)
abbrev QGs (X : Cx) (tgs : List Expr) (g : TGsd) : Prop := PGs X tgs (upGs (qc X) g)
theorem pg_imp {X : Cx} {e : Expr} {t u : TG} (h : PG X e u) (f : ∀ v σ H R, t v σ H R → u v σ H R) : PG X e t := ⟨fun pins s σ H v w Q I r q => h.run pins s σ H v w Q I r (f v σ H Q q)⟩
theorem pgs_imp {X : Cx} {e : List Expr} {t u : TGs} (h : PGs X e u) (f : ∀ v σ H R, t v σ H R → u v σ H R) : PGs X e t := ⟨fun pins s σ H v w Q I r q => h.run pins s σ H v w Q I r (f v σ H Q q)⟩
def qgName (i : Nat) : TGd := fun d ρ G Q => Q (TL.put ρ i d) G
def qgNil : TGsd := fun ds ρ G Q => match ds with | [] => Q ρ G | _ => False
def qgCons (g : TGd) (gs : TGsd) : TGsd := fun ds ρ G Q => match ds with | d :: r => g d ρ G (fun ρ1 G1 => gs r ρ1 G1 Q) | [] => False
def qgTup (n : Nat) (gs : TGsd) : TGd := fun d ρ G Q => match d with | .tup ds => ds.length = n ∧ gs ds ρ G Q | _ => False
section
variable {X : Cx} {pos : Pos} {e : Expr} {es : List Expr}
theorem qg_name {i : Nat} {x : Str} (hN : X.N.Nodup) (hi : X.N[i]? = some x := by rfl) (hx : Loc X.env.scope x := by first | exact .inl rfl | exact .inr rfl) (hf : X.fn x = true ∨ X.env.scope.names.lookup x = some .local := by first | exact .inl rfl | exact .inr rfl | assumption) : QG X (.Name x pos) (qgName i) :=
  pg_imp (pg_name hN hi hx hf) fun v σ H R ⟨d, ρ, G, Q, r, i', h, k⟩ => k _ H _ G (Stay.refl H) ⟨r.rv.set i i', r.rg⟩ h
theorem qgs_nil : QGs X [] qgNil := pgs_imp pgs_nil fun v σ H R ⟨ds, ρ, G, Q, r, i', h, k⟩ => by
  cases ds with
  | nil => exact ⟨i', k _ H _ G (Stay.refl H) r h⟩
  | cons _ _ => exact h.elim
theorem qgs_cons {g : TGd} {gs : TGsd} (h1 : QG X e g) (h2 : QGs X es gs) (hs : (assignEach (e :: es) X.env).map (·.2) = assign e X.env :: (assignEach es X.env).map (·.2) := by rfl) : QGs X (e :: es) (qgCons g gs) := by
  refine pgs_imp (pgs_cons h1 h2 hs) fun vs σ H R ⟨ds, ρ, G, Q, r, i', h, k⟩ => ?_
  cases ds with
  | nil => exact h.elim
  | cons d ds =>
    obtain ⟨v, w, rfl, iv, iw⟩ := i'
    exact ⟨v, w, rfl, d, ρ, G, _, r, iv, h, fun σ1 H1 ρ1 G1 s r1 q => ⟨ds, ρ1, G1, Q, r1, iw.stay s, q, fun σ2 H2 ρ2 G2 s2 r2 q2 => k σ2 H2 ρ2 G2 (s.trans s2) r2 q2⟩⟩
theorem qg_tup {k : Nat} {gs : TGsd} {n : Nat} (hc : X.calm = true) (h : QGs X es gs) (hn : (assignEach es X.env).length = n := by rfl) (hst : (assignEach es X.env).findIdx? (·.1) = none := by rfl) : QG X (.Tuple es k pos) (qgTup n gs) := by
  refine pg_imp (pg_tup hc h hn hst) fun v σ H R ⟨d, ρ, G, Q, r, i', q, k⟩ => ?_
  cases d with
  | tup ds =>
    obtain ⟨a, xs, rfl, z, w⟩ := i'
    exact ⟨a, xs, rfl, z, by rw [w.length]; exact q.1, ds, ρ, G, Q, r, w, q.2, k⟩
  | _ => exact q.elim
end
/-! ### assignments -/
section
variable {X : Cx} {tg e : Expr} {te : TEd} {g : TGd} {pos : Pos}
def qAsg (te : TEd) (g : TGd) : TSd := fun E ρ G => te ρ G fun d G1 => g d ρ G1 E.nx
theorem qs_asg (he : QE X e te) (hg : QG X tg g) (hs : swapsWithSole [tg] e pos.line X.env = pure false := by rfl) (hw : swappedStores [tg] e X.env = pure none := by rfl)
    (h1 : (assignEach [tg] X.env).map (·.2) = [assign tg X.env] := by rfl) : QS X (.Assign [tg] e pos) (qAsg te g) := by
  refine ps_imp (ps_asg he hg hs hw h1) fun F σ H ⟨ρ, G, E, r, h, k⟩ => up_on r h fun v H1 d G1 s g i q => ?_
  exact ⟨d, ρ, G1, E.nx, r.to s g, i, q, fun σ1 H2 ρ1 G2 s2 r2 q2 => k.nx σ1 H2 ρ1 G2 (s.trans s2) r2 q2⟩
theorem qs_set {i : Nat} {x : Str} {pos' : Pos} (hN : X.N.Nodup) (he : QE X e te) (hi : X.N[i]? = some x := by rfl) (hx : Loc X.env.scope x := by first | exact .inl rfl | exact .inr rfl) (hs : swapsWith e (some (.Name x pos')) pos.line X.env = pure false := by rfl)
    (hf : X.fn x = true ∨ X.env.scope.names.lookup x = some .local := by first | exact .inl rfl | exact .inr rfl | assumption) : QS X (.Assign [.Name x pos'] e pos) (qAsg te (qgName i)) := by
  refine ps_imp (ps_set (i := i) hN hi hx he hs hf) fun F σ H ⟨ρ, G, E, r, h, k⟩ => up_on r h fun v H1 d G1 s g i' q => ?_
  exact k.nx _ H1 _ G1 s ⟨(r.to s g).rv.set i i', g⟩ q
/-! a, b = x, y with plain local names: stored from the right -/
def tSwap2 (K : PySem.W.Frag) (i j : Nat) (te : TE) : TS := fun D σ H => te σ H fun v H1 => ∃ p a b, v = .ref p ∧ SqT K H1 p [a, b] ∧ D.nx ((σ.set j (some b)).set i (some a)) H1
def tSwap3 (K : PySem.W.Frag) (i j k : Nat) (te : TE) : TS := fun D σ H => te σ H fun v H1 => ∃ p a b c, v = .ref p ∧ SqT K H1 p [a, b, c] ∧ D.nx (((σ.set k (some c)).set j (some b)).set i (some a)) H1
theorem ps_swap2 {te : TE} {i j : Nat} {x y : Str} {px py pt : Pos} {kt : Nat} (hc : X.calm = true) (hN : X.N.Nodup) (he : PE X e te) (hi : X.N[i]? = some x) (hj : X.N[j]? = some y)
    (hx : X.env.scope.names.lookup x = some .local) (hy : X.env.scope.names.lookup y = some .local)
    (hs : swapsWithSole [.Tuple [.Name x px, .Name y py] kt pt] e pos.line X.env = pure false) (hw : swappedStores [.Tuple [.Name x px, .Name y py] kt pt] e X.env = pure (some [x, y])) :
    PS X (.Assign [.Tuple [.Name x px, .Name y py] kt pt] e pos) (tSwap2 X.K i j te) := by
  refine ⟨fun pins s σ H D I h => ?_⟩
  refine PyProof.Rows.Assign_Tuple_swapped (thn (he.run pins s σ H _ I h) fun v s1 ⟨x1, H1, I1, r1, p, a, b, ex, hq, q⟩ => ?_) hs hw
  subst ex
  cases r1
  obtain ⟨its, rv, ht, _⟩ := I1.tuple hq
  obtain ⟨ua, ub, rfl, ra, rb⟩ : ∃ u w, its = [u, w] ∧ RelV a u ∧ RelV b w := by
    cases rv with
    | cons q1 t1 => cases t1 with
      | cons q2 t2 => cases t2; exact ⟨_, _, rfl, q1, q2⟩
  refine unpackItems_tuple (items := #[ua, ub]) (I1.ok.hd hc) ht fun h' hx' => ?_
  have I3 := I1.kept (h' := h') (t' := s1.toks) fun b o e => hx' b o (Nat.ne_of_lt (Heap.lt_size e)) e
  show wpAny _ _ (assignInOrder [fun v => bindName X.env y v, fun v => bindName X.env x v] [ub, ua]) _ _ _
  refine assignInOrder_cons (wpAny_bindName (store_ok I3 hN hj (.inl hy) rb (fun s2 I4 => ?_) (.inr hy)))
  exact assignInOrder_cons (wpAny_bindName (store_ok I4 hN hi (.inl hx) ra (fun s3 I5 => assignInOrder_nil ⟨_, H1, I5, q⟩) (.inr hx)))
theorem ps_swap3 {te : TE} {i j k : Nat} {x y z : Str} {px py pz pt : Pos} {kt : Nat} (hc : X.calm = true) (hN : X.N.Nodup) (he : PE X e te) (hi : X.N[i]? = some x) (hj : X.N[j]? = some y) (hk : X.N[k]? = some z)
    (hx : X.env.scope.names.lookup x = some .local) (hy : X.env.scope.names.lookup y = some .local) (hz : X.env.scope.names.lookup z = some .local)
    (hs : swapsWithSole [.Tuple [.Name x px, .Name y py, .Name z pz] kt pt] e pos.line X.env = pure false) (hw : swappedStores [.Tuple [.Name x px, .Name y py, .Name z pz] kt pt] e X.env = pure (some [x, y, z])) :
    PS X (.Assign [.Tuple [.Name x px, .Name y py, .Name z pz] kt pt] e pos) (tSwap3 X.K i j k te) := by
  refine ⟨fun pins s σ H D I h => ?_⟩
  refine PyProof.Rows.Assign_Tuple_swapped (thn (he.run pins s σ H _ I h) fun v s1 ⟨x1, H1, I1, r1, p, a, b, c, ex, hq, q⟩ => ?_) hs hw
  subst ex
  cases r1
  obtain ⟨its, rv, ht, _⟩ := I1.tuple hq
  obtain ⟨ua, ub, uc, rfl, ra, rb, rc⟩ : ∃ u w v, its = [u, w, v] ∧ RelV a u ∧ RelV b w ∧ RelV c v := by
    cases rv with
    | cons q1 t1 => cases t1 with
      | cons q2 t2 => cases t2 with
        | cons q3 t3 => cases t3; exact ⟨_, _, _, rfl, q1, q2, q3⟩
  refine unpackItems_tuple (items := #[ua, ub, uc]) (I1.ok.hd hc) ht fun h' hx' => ?_
  have I3 := I1.kept (h' := h') (t' := s1.toks) fun b o e => hx' b o (Nat.ne_of_lt (Heap.lt_size e)) e
  show wpAny _ _ (assignInOrder [fun v => bindName X.env z v, fun v => bindName X.env y v, fun v => bindName X.env x v] [uc, ub, ua]) _ _ _
  refine assignInOrder_cons (wpAny_bindName (store_ok I3 hN hk (.inl hz) rc (fun s2 I4 => ?_) (.inr hz)))
  refine assignInOrder_cons (wpAny_bindName (store_ok I4 hN hj (.inl hy) rb (fun s3 I5 => ?_) (.inr hy)))
  exact assignInOrder_cons (wpAny_bindName (store_ok I5 hN hi (.inl hx) ra (fun s3 I6 => assignInOrder_nil ⟨_, H1, I6, q⟩) (.inr hx)))
def qSwap2 (i j : Nat) (te : TEd) : TSd := fun E ρ G => te ρ G fun d G1 => match d with | .tup [a, b] => E.nx (TL.put (TL.put ρ j b) i a) G1 | _ => False
def qSwap3 (i j k : Nat) (te : TEd) : TSd := fun E ρ G => te ρ G fun d G1 => match d with | .tup [a, b, c] => E.nx (TL.put (TL.put (TL.put ρ k c) j b) i a) G1 | _ => False
theorem qs_swap2 {i j : Nat} {x y : Str} {px py pt : Pos} {kt : Nat} (hc : X.calm = true) (hN : X.N.Nodup) (he : QE X e te) (hi : X.N[i]? = some x := by rfl) (hj : X.N[j]? = some y := by rfl)
    (hx : X.env.scope.names.lookup x = some .local := by rfl) (hy : X.env.scope.names.lookup y = some .local := by rfl)
    (hs : swapsWithSole [.Tuple [.Name x px, .Name y py] kt pt] e pos.line X.env = pure false := by rfl) (hw : swappedStores [.Tuple [.Name x px, .Name y py] kt pt] e X.env = pure (some [x, y]) := by rfl) :
    QS X (.Assign [.Tuple [.Name x px, .Name y py] kt pt] e pos) (qSwap2 i j te) := by
  refine ps_imp (ps_swap2 hc hN he hi hj hx hy hs hw) fun F σ H ⟨ρ, G, E, r, h, k⟩ => up_on r h fun v H1 d G1 s g i' q => ?_
  split at q
  · obtain ⟨p, xs, rfl, z, w⟩ := i'
    obtain ⟨va, vb, rfl, ia, ib⟩ := w.two
    exact ⟨p, va, vb, rfl, z, k.nx _ H1 _ G1 s ⟨((r.to s g).rv.set j ib).set i ia, g⟩ q⟩
  · exact q.elim
theorem qs_swap3 {i j k : Nat} {x y z : Str} {px py pz pt : Pos} {kt : Nat} (hc : X.calm = true) (hN : X.N.Nodup) (he : QE X e te) (hi : X.N[i]? = some x := by rfl) (hj : X.N[j]? = some y := by rfl) (hk : X.N[k]? = some z := by rfl)
    (hx : X.env.scope.names.lookup x = some .local := by rfl) (hy : X.env.scope.names.lookup y = some .local := by rfl) (hz : X.env.scope.names.lookup z = some .local := by rfl)
    (hs : swapsWithSole [.Tuple [.Name x px, .Name y py, .Name z pz] kt pt] e pos.line X.env = pure false := by rfl) (hw : swappedStores [.Tuple [.Name x px, .Name y py, .Name z pz] kt pt] e X.env = pure (some [x, y, z]) := by rfl) :
    QS X (.Assign [.Tuple [.Name x px, .Name y py, .Name z pz] kt pt] e pos) (qSwap3 i j k te) := by
  refine ps_imp (ps_swap3 hc hN he hi hj hk hx hy hz hs hw) fun F σ H ⟨ρ, G, E, r, h, kk⟩ => up_on r h fun v H1 d G1 s g i' q => ?_
  split at q
  · obtain ⟨p, xs, rfl, z, w⟩ := i'
    obtain ⟨va, vb, vc, rfl, ia, ib, ic⟩ := w.three
    exact ⟨p, va, vb, vc, rfl, z, kk.nx _ H1 _ G1 s ⟨(((r.to s g).rv.set k ic).set j ib).set i ia, g⟩ q⟩
  · exact q.elim
/-! name op= e -/
def qAug (i : Nat) (te : TEd) (f : Int → Int → Int) : TSd := fun E ρ G => match sl ρ i with
  | some (.int n) => te ρ G fun d G1 => match d with | .int m => E.nx (TL.put ρ i (.int (f n m))) G1 | _ => False
  | _ => False
theorem qs_aug {i : Nat} {x : Str} {op : Operator} {f : Int → Int → Int} {pos' : Pos} (ho : PIp X op (ipI f)) (hN : X.N.Nodup) (he : QE X e te) (hi : X.N[i]? = some x := by rfl) (hx : Loc X.env.scope x := by first | exact .inl rfl | exact .inr rfl)
    (hf : X.fn x = true ∨ X.env.scope.names.lookup x = some .local := by first | exact .inl rfl | exact .inr rfl | assumption) : QS X (.AugAssign (.Name x pos') op e pos) (qAug i te f) := by
  refine ps_imp (ps_aug (i := i) hN hi hx he ho hf) fun F σ H ⟨ρ, G, E, r, h, k⟩ => ?_
  unfold qAug at h
  split at h
  · rename_i n en
    obtain ⟨v, q1, q2⟩ := r.rv.get en
    cases (show v = .int n from q2)
    refine ⟨_, q1, up_on r h fun v H1 d G1 s g i' q => ?_⟩
    split at q
    · rename_i m
      cases (show v = .int m from i')
      exact ⟨n, m, rfl, rfl, k.nx _ H1 _ G1 s ⟨(r.to s g).rv.set (d := .int (f n m)) (v := .int (f n m)) i rfl, g⟩ q⟩
    · exact q.elim
  · exact h.elim
end
/-! ### loops -/
section
variable {X : Cx} {tg e iter c : Expr} {body : List Stmt} {g : TGd} {tb : TSd} {tc : TTd} {ti : TId} {pos : Pos}
/-- the items, the invariant by the turn -/
def qFor (src : TId) (g : TGd) (tb : TSd) : TSd := fun E ρ G => src ρ G fun items gl G1 => ∃ I : Nat → Sd → Gp → Prop, I 0 ρ G1 ∧ (∀ i ρ G, I i ρ G → i ≤ items.length → GOf gl G) ∧
  (∀ i d ρ G, items[i]? = some d → I i ρ G → g d ρ G fun ρ2 G2 => tb { E with nx := I (i + 1), ct := I (i + 1), bk := E.nx } ρ2 G2) ∧ (∀ ρ G, I items.length ρ G → E.nx ρ G)
theorem qs_for (hp : PassesOwn (model X.prog X.w) X.A X.env X.xe) (hc : X.calm = true) (hi : QI X tg iter ti) (hg : QG X tg g) (hb : QSs X body tb)
    (hs : ∀ x, foldedSetIterable iter X.env x = pure x := by intro _; rfl) : QS X (.For tg iter body [] pos) (qFor ti g tb) := by
  refine ps_imp (ps_for hp hc hi hg hb hs) fun F σ H ⟨ρ, G, E, r, h, k⟩ => ⟨ρ, G, _, r, h, fun J H1 items gl G1 s1 g1 sim gu q => ?_⟩
  obtain ⟨I, h0, hG, hs, hd⟩ := q
  refine ⟨fun i m σ' H' => m = items.length - i ∧ i ≤ items.length ∧ ∃ ρ' G', Stay H1 H' ∧ Rel (qc X) ρ' G' σ' H' ∧ I i ρ' G', ⟨items.length, by simp, Nat.zero_le _, ρ, G1, Stay.refl _, r.to s1 g1, h0⟩, ?_⟩
  rintro i m σ' H' ⟨rfl, hi, ρ', G', st, r', p⟩
  have gd := hG i ρ' G' p hi
  by_cases hlt : i < items.length
  · refine .inr ⟨sim.go i H' G' st r'.rg gd hlt, fun σ2 H2 => ∃ ρ2 G2, Stay H1 H2 ∧ Rel (qc X) ρ2 G2 σ2 H2 ∧ I (i + 1) ρ2 G2, fun σ2 H2 q => ⟨items.length - (i + 1), by omega, rfl, hlt, q⟩, fun x H2 y => ?_⟩
    have ed : items[i]? = some items[i] := List.getElem?_eq_getElem hlt
    obtain ⟨s2, g2, i2⟩ := sim.yld i H' G' x H2 st r'.rg gd y _ ed
    refine ⟨items[i], ρ', G', _, r'.to s2 g2, i2, hs i _ ρ' G' ed p, fun σ3 H3 ρ3 G3 s3 r3 q3 => ⟨ρ3, G3, _, r3, q3, ?_⟩⟩
    have s13 : Stay H1 H3 := (st.trans s2).trans s3
    have sH : Stay H H3 := s1.trans s13
    exact ⟨fun σ4 H4 ρ4 G4 s4 r4 q4 => ⟨ρ4, G4, s13.trans s4, r4, q4⟩, fun v H4 d4 G4 s4 g4 i4 q4 => k.rt v H4 d4 G4 (sH.trans s4) g4 i4 q4, fun σ4 H4 ρ4 G4 s4 r4 q4 => k.nx σ4 H4 ρ4 G4 (sH.trans s4) r4 q4, fun σ4 H4 ρ4 G4 s4 r4 q4 => ⟨ρ4, G4, s13.trans s4, r4, q4⟩⟩
  · have e : i = items.length := by omega
    subst e
    exact .inl ⟨sim.stop H' G' st r'.rg gd, k.nx σ' H' ρ' G' (s1.trans st) r' (hd ρ' G' p)⟩
/-- the invariant with its measure -/
def qWhile (c : TTd) (tb : TSd) : TSd := fun E ρ G => ∃ I : Nat → Sd → Gp → Prop, (∃ m, I m ρ G) ∧ ∀ m ρ G, I m ρ G → c ρ G fun b G1 =>
  Br b (tb { E with nx := fun ρ' G' => ∃ m', m' < m ∧ I m' ρ' G', ct := fun ρ' G' => ∃ m', m' < m ∧ I m' ρ' G', bk := E.nx } ρ G1) (E.nx ρ G1)
theorem qs_while (hp : PassesOwn (model X.prog X.w) X.A X.env X.xe) (hc : QT X c tc) (hb : QSs X body tb) : QS X (.While c body [] pos) (qWhile tc tb) := by
  refine ps_imp (ps_while hp hc hb) fun F σ H ⟨ρ, G, E, r, h, k⟩ => ?_
  obtain ⟨I, ⟨m0, h0⟩, hs⟩ := h
  refine ⟨fun m σ' H' => ∃ ρ' G', Stay H H' ∧ Rel (qc X) ρ' G' σ' H' ∧ I m ρ' G', ⟨m0, ρ, G, Stay.refl _, r, h0⟩, ?_⟩
  rintro m σ' H' ⟨ρ', G', st, r', p⟩
  refine ⟨ρ', G', _, r', hs m ρ' G' p, fun b H1 G1 s1 g1 q => Br.ite ⟨fun e => ?_, fun e => k.nx σ' H1 ρ' G1 (st.trans s1) (r'.to s1 g1) (q.2 e)⟩⟩
  refine ⟨fun σ2 H2 => ∃ m', m' < m ∧ ∃ ρ2 G2, Stay H H2 ∧ Rel (qc X) ρ2 G2 σ2 H2 ∧ I m' ρ2 G2, fun σ2 H2 q => q, ρ', G1, _, r'.to s1 g1, q.1 e, ?_⟩
  have sH := st.trans s1
  exact ⟨fun σ4 H4 ρ4 G4 s4 r4 ⟨m', hm, q4⟩ => ⟨m', hm, ρ4, G4, sH.trans s4, r4, q4⟩, fun v H4 d4 G4 s4 g4 i4 q4 => k.rt v H4 d4 G4 (sH.trans s4) g4 i4 q4, fun σ4 H4 ρ4 G4 s4 r4 q4 => k.nx σ4 H4 ρ4 G4 (sH.trans s4) r4 q4, fun σ4 H4 ρ4 G4 s4 r4 ⟨m', hm, q4⟩ => ⟨m', hm, ρ4, G4, sH.trans s4, r4, q4⟩⟩
end
end TL
end
section
set_option Elab.async false
set_option linter.all false
set_option maxRecDepth 100000
set_option maxHeartbeats 4000000
namespace TL
open PySem PySem.Spec PyProof.Rows L2
/-! ### comprehensions -/
def forget : Sd → Nat → Sd
  | [], _ => []
  | _ :: r, 0 => none :: r
  | x :: r, n + 1 => x :: forget r n
def wipeD (ρ : Sd) : List Nat → Sd
  | [] => ρ
  | v :: vs => forget (wipeD ρ vs) v
section
variable {K : PySem.W.Frag} {H : Hp}
theorem RV.forget : ∀ {ρ : Sd} {σ : L2.St} (i : Nat), RV K H ρ σ → RV K H (TL.forget ρ i) (σ.set i none)
  | [], _, _, h => by rw [show _ = [] from h]; rfl
  | x :: r, _, 0, h => by
    obtain ⟨y, t, rfl, _, z⟩ := h
    exact ⟨_, _, rfl, fun d e => (by cases e), z⟩
  | x :: r, _, i + 1, h => by
    obtain ⟨y, t, rfl, p, z⟩ := h
    exact ⟨_, _, rfl, p, RV.forget i z⟩
theorem RV.wipe {ρ : Sd} {σ : L2.St} (h : RV K H ρ σ) : ∀ vs : List Nat, RV K H (wipeD ρ vs) (L2.wipe σ vs)
  | [] => h
  | v :: vs => (RV.wipe h vs).forget v
end
theorem wipe_set {σ : L2.St} {i : Nat} {x : Option V} : ∀ {vs : List Nat}, i ∈ vs → L2.wipe (σ.set i x) vs = L2.wipe σ vs
  | v :: vs, h => by
    unfold L2.wipe
    by_cases e : i ∈ vs
    · rw [wipe_set e]
    · have hv : v = i := by rcases List.mem_cons.mp h with q | q; exact q.symm; exact absurd q e
      subst hv
      have : ∀ vs : List Nat, (L2.wipe (σ.set v x) vs).set v none = (L2.wipe σ vs).set v none := by
        intro ws
        induction ws with
        | nil => simp [L2.wipe]
        | cons w ws ih =>
          unfold L2.wipe
          by_cases q : w = v
          · subst q; simp only [List.set_set]; exact ih
          · rw [List.set_comm _ _ q, List.set_comm _ _ q, ih]
      exact this vs
theorem wipe_get (σ : L2.St) (i : Nat) : ∀ vs : List Nat, (L2.wipe σ vs)[i]? = if i ∈ vs then σ[i]?.map (fun _ => none) else σ[i]?
  | [] => by simp [L2.wipe]
  | v :: vs => by
    unfold L2.wipe
    rw [List.getElem?_set, wipe_get σ i vs, L2.wipe_length]
    by_cases e : v = i
    · subst e
      simp only [if_pos, List.mem_cons, true_or]
      by_cases hl : v < σ.length
      · rw [if_pos hl, List.getElem?_eq_getElem hl]; rfl
      · rw [if_neg hl, List.getElem?_eq_none (by omega)]; rfl
    · have : i ∈ v :: vs ↔ i ∈ vs := by simp [show ¬ i = v from fun z => e z.symm]
      rw [if_neg e]
      by_cases q : i ∈ vs
      · rw [if_pos q, if_pos (this.mpr q)]
      · rw [if_neg q, if_neg (fun z => q (this.mp z))]
theorem wipe_idem (σ : L2.St) (vs : List Nat) : L2.wipe (L2.wipe σ vs) vs = L2.wipe σ vs := by
  apply List.ext_getElem?
  intro i
  rw [wipe_get, wipe_get]
  by_cases h : i ∈ vs
  · simp only [h, if_true, Option.map_map]; rfl
  · simp only [h, if_false]
/-- a comprehension's target, the block's own names at vs -/
structure CG (K : PySem.W.Frag) (vs : List Nat) (g : TG) (gd : TGd) : Prop where
  lift : ∀ v d σ H ρ G Q, RV K H ρ σ → IsD K H d v → gd d ρ G Q → g v σ H fun σ1 H1 => H1 = H ∧ L2.wipe σ1 vs = L2.wipe σ vs ∧ ∃ ρ1, RV K H ρ1 σ1 ∧ Q ρ1 G
structure CGs (K : PySem.W.Frag) (vs : List Nat) (g : TGs) (gd : TGsd) : Prop where
  lift : ∀ us ds σ H ρ G Q, RV K H ρ σ → IsDs K H ds us → gd ds ρ G Q → g us σ H fun σ1 H1 => H1 = H ∧ L2.wipe σ1 vs = L2.wipe σ vs ∧ ∃ ρ1, RV K H ρ1 σ1 ∧ Q ρ1 G
/-- a TG reading is wanted of each end -/
structure TGm (g : TG) : Prop where
  m : ∀ v σ H (Q Q' : L2.St → Hp → Prop), (∀ σ1 H1, Q σ1 H1 → Q' σ1 H1) → g v σ H Q → g v σ H Q'
section
variable {K : PySem.W.Frag} {vs : List Nat}
theorem cg_name {i : Nat} (h : i ∈ vs := by decide) : CG K vs (gName i) (qgName i) := ⟨fun v d σ H ρ G Q r iv q => ⟨rfl, wipe_set h, _, r.set i iv, q⟩⟩
theorem tgm_name {i : Nat} : TGm (gName i) := ⟨fun v σ H Q Q' f h => f _ _ h⟩
theorem cgs_nil : CGs K vs gNil qgNil := ⟨fun us ds σ H ρ G Q r iv q => by
  cases ds with
  | nil => exact ⟨iv, rfl, rfl, ρ, r, q⟩
  | cons _ _ => exact q.elim⟩
theorem cgs_cons {g : TG} {gd : TGd} {gs : TGs} {gds : TGsd} (m : TGm g) (ms : ∀ us σ H (Q Q' : L2.St → Hp → Prop), (∀ σ1 H1, Q σ1 H1 → Q' σ1 H1) → gs us σ H Q → gs us σ H Q') (h : CG K vs g gd) (hs : CGs K vs gs gds) : CGs K vs (gCons g gs) (qgCons gd gds) := ⟨fun us ds σ H ρ G Q r iv q => by
  cases ds with
  | nil => exact q.elim
  | cons d ds =>
    obtain ⟨v, w, rfl, i1, i2⟩ := iv
    refine ⟨v, w, rfl, m.m _ _ _ _ _ (fun σ1 H1 z => ?_) (h.lift v d σ H ρ G _ r i1 q)⟩
    obtain ⟨rfl, e, ρ1, r1, q1⟩ := z
    refine ms _ _ _ _ _ (fun σ2 H2 z => ?_) (hs.lift w ds σ1 H1 ρ1 G Q r1 i2 q1)
    obtain ⟨rfl, e2, z⟩ := z
    exact ⟨rfl, e2.trans e, z⟩⟩
theorem tgsm_nil : ∀ us σ H (Q Q' : L2.St → Hp → Prop), (∀ σ1 H1, Q σ1 H1 → Q' σ1 H1) → gNil us σ H Q → gNil us σ H Q' := fun _ _ _ _ _ f h => ⟨h.1, f _ _ h.2⟩
theorem tgsm_cons {g : TG} {gs : TGs} (m : TGm g) (ms : ∀ us σ H (Q Q' : L2.St → Hp → Prop), (∀ σ1 H1, Q σ1 H1 → Q' σ1 H1) → gs us σ H Q → gs us σ H Q') :
    ∀ us σ H (Q Q' : L2.St → Hp → Prop), (∀ σ1 H1, Q σ1 H1 → Q' σ1 H1) → gCons g gs us σ H Q → gCons g gs us σ H Q' := fun _ _ _ _ _ f ⟨v, r, e, h⟩ => ⟨v, r, e, m.m _ _ _ _ _ (fun σ1 H1 q => ms _ _ _ _ _ f q) h⟩
theorem tgm_tup {n : Nat} {gs : TGs} (ms : ∀ us σ H (Q Q' : L2.St → Hp → Prop), (∀ σ1 H1, Q σ1 H1 → Q' σ1 H1) → gs us σ H Q → gs us σ H Q') : TGm (gTup K n gs) := ⟨fun v σ H Q Q' f ⟨a, xs, e, q, l, h⟩ => ⟨a, xs, e, q, l, ms _ _ _ _ _ f h⟩⟩
theorem cg_tup {n : Nat} {gs : TGs} {gds : TGsd} (hs : CGs K vs gs gds) : CG K vs (gTup K n gs) (qgTup n gds) := ⟨fun v d σ H ρ G Q r iv q => by
  cases d with
  | tup ds =>
    obtain ⟨a, xs, rfl, z, w⟩ := iv
    exact ⟨a, xs, rfl, z, by rw [w.length]; exact q.1, hs.lift xs ds σ H ρ G Q r w q.2⟩
  | _ => exact q.elim⟩
end
/-- the tests of a comprehension -/
abbrev QTs (X : Cx) (ifs : List Expr) (t : TTd) : Prop := PTs X ifs (upT (qc X) t)
def qYes : TTd := fun _ G Q => Q true G
theorem pts_imp {X : Cx} {e : List Expr} {t u : TT} (h : PTs X e u) (f : ∀ σ H R, t σ H R → u σ H R) : PTs X e t := ⟨fun pins s σ H Q I q => h.run pins s σ H Q I (f σ H Q q)⟩
theorem qts_nil {X : Cx} : QTs X [] qYes := pts_imp pts_nil fun σ H R ⟨ρ, G, Q, r, h, k⟩ => k true H G (Stay.refl H) r.rg h
theorem qts_one {X : Cx} {c : Expr} {t : TTd} (h : QT X c t) : QTs X [c] t := pts_one h
section
variable {X : Cx}
/-- the turn of a comprehension -/
def lcTurn (gd : TGd) (tt : TTd) (te : TEd) (p : Addr) (ρ0 : Sd) (I I' : List D → Gp → Prop) (d : D) (acc : List D) (G : Gp) : Prop :=
  gd d ρ0 G fun ρ2 G2 => tt ρ2 G2 fun b G3 => Br b (te ρ2 G3 fun y G4 => G4 p = some (.lst acc) ∧ acc.length < sizeLine ∧ I' (acc ++ [y]) (gup G4 p (.lst (acc ++ [y])))) (I' acc G3)
/-- the turns over the items -/
def LcIn (gd : TGd) (tt : TTd) (te : TEd) (vs : List Nat) (ρ : Sd) (items : List D) (gl : List (Addr × O)) (G1 : Gp) (Q : KD) : Prop :=
  ∀ p, G1 p = none → ∃ I : Nat → List D → Gp → Prop, I 0 [] (gup G1 p (.lst [])) ∧
  (∀ i acc G, I i acc G → i ≤ items.length → GOf gl G) ∧ (∀ i d acc G, items[i]? = some d → I i acc G → lcTurn gd tt te p (wipeD ρ vs) (I i) (I (i + 1)) d acc G) ∧ (∀ acc G, I items.length acc G → Q (.ref p) G)
def qLc (src : TId) (gd : TGd) (tt : TTd) (te : TEd) (vs : List Nat) : TEd := fun ρ G Q => src ρ G fun items gl G1 => LcIn gd tt te vs ρ items gl G1 Q
theorem lc_lift {wi : TId} {g : TG} {gd : TGd} {tt : TTd} {te : TEd} {vs : List Nat} (cg : CG X.K vs g gd) (m : TGm g) : ∀ σ H R, up (qc X) (qLc wi gd tt te vs) σ H R → tLc (upI (qc X) wi) g (upT (qc X) tt) (up (qc X) te) vs σ H R := by
  rintro σ H R ⟨ρ, G, Q, r, h, k⟩
  refine ⟨ρ, G, _, r, h, fun J H1 items gl G1 s1 g1 sim gu q => ?_⟩
  intro D hD
  obtain ⟨I, h0, hG, hs, hd⟩ := q D (g1.fresh hD)
  have sD := Stay.new (o := .lst []) hD
  refine ⟨fun i m H' => m = items.length - i ∧ i ≤ items.length ∧ ∃ acc G', Stay H1 H' ∧ RG X.prog X.w X.K H' G' ∧ I i acc G', ⟨items.length, by simp, Nat.zero_le _, [], _, sD, g1.add (o := .lst []) hD ⟨[], upd_same, rfl⟩, h0⟩, ?_⟩
  rintro i m H' ⟨rfl, hi, acc, G', st, g', p⟩
  have gd' := hG i acc G' p hi
  by_cases hlt : i < items.length
  · refine .inr ⟨sim.go i H' G' st g' gd' hlt, fun H2 => ∃ acc G2, Stay H1 H2 ∧ RG X.prog X.w X.K H2 G2 ∧ I (i + 1) acc G2, fun H2 q => ⟨items.length - (i + 1), by omega, rfl, hlt, q⟩, fun x H2 y => ?_⟩
    have ed : items[i]? = some items[i] := List.getElem?_eq_getElem hlt
    obtain ⟨s2, g2, i2⟩ := sim.yld i H' G' x H2 st g' gd' y _ ed
    have s12 : Stay H1 H2 := st.trans s2
    have rw' := (r.rv.stay (s1.trans s12)).wipe vs
    refine m.m _ _ _ _ _ (fun σ3 H3 z => ?_) (cg.lift x items[i] (L2.wipe σ vs) H2 (wipeD ρ vs) G' _ rw' i2 (hs i _ acc G' ed p))
    obtain ⟨rfl, ew, ρ3, r3, q3⟩ := z
    refine ⟨by rw [ew, wipe_idem], ρ3, G', _, ⟨r3, g2⟩, q3, fun b H4 G4 s4 g4 q4 => Br.ite ⟨fun e => ?_, fun e => ⟨acc, G4, s12.trans s4, g4, q4.2 e⟩⟩⟩
    refine ⟨ρ3, G4, _, ⟨r3.stay s4, g4⟩, q4.1 e, fun yv H5 yd G5 s5 g5 i5 q5 => ?_⟩
    obtain ⟨qa, ql, qi⟩ := q5
    obtain ⟨xs, hx, ix⟩ := g5 D _ qa
    have sp := Stay.put (u := HO.lst (xs ++ [yv])) hx (fun _ z => by cases z) (fun _ _ z => by cases z)
    refine ⟨xs, hx, by rw [ix.length]; exact ql, acc ++ [yd], _, ((s12.trans s4).trans s5).trans sp, g5.put (o := .lst (acc ++ [yd])) hx (fun _ z => by cases z) (fun _ _ z => by cases z) ⟨xs ++ [yv], upd_same, ?_⟩, qi⟩
    exact (ix.stay sp).append ⟨yv, [], rfl, i5.stay sp, rfl⟩
  · have e : i = items.length := by omega
    subst e
    exact .inl ⟨sim.stop H' G' st g' gd', k (.ref D) H' (.ref D) G' (s1.trans st) g' rfl (hd acc G' p)⟩
theorem q_lc {elt tg iter : Expr} {ifs : List Expr} {scope : Scope} {own : List (Str × Nat)} {pos : Pos} {wi : TId} {g : TG} {gd : TGd} {tt : TTd} {te : TEd} (cg : CG X.K (own.map (·.2)) g gd) (m : TGm g) (hc : X.calm = true) (hN : X.N.Nodup) (hi : QI X tg iter wi) (ok : BlkOk X.N X.env.scope scope own)
    (hg : ∀ (s : Shared) (H : Hp) (C : Addr) (cl : List (Str × Addr)) (fp : List Addr), PG (X.blk s H scope (compEnvC scope cl C X.env) fp) tg g) (ht : ∀ (s : Shared) (H : Hp) (C : Addr) (cl : List (Str × Addr)) (fp : List Addr), QTs (X.blk s H scope (compEnvC scope cl C X.env) fp) ifs tt)
    (he : ∀ (s : Shared) (H : Hp) (C : Addr) (cl : List (Str × Addr)) (fp : List Addr), QE (X.blk s H scope (compEnvC scope cl C X.env) fp) elt te) (hs : ∀ x, foldedSetIterable iter X.env x = pure x := by intro _; rfl) :
    QE X (.ListComp elt [⟨tg, iter, ifs, 0⟩] scope pos) (qLc wi gd tt te (own.map (·.2))) :=
  pe_imp (pe_lc hc hN hi ok hg ht he hs) (lc_lift cg m)
theorem qs_setLc {i : Nat} {y : Str} {py : Pos} {elt tg iter : Expr} {ifs : List Expr} {scope : Scope} {own : List (Str × Nat)} {pos spos : Pos} {wi : TId} {g : TG} {gd : TGd} {tt : TTd} {te : TEd} (cg : CG X.K (own.map (·.2)) g gd) (m : TGm g) (hc : X.calm = true) (hN : X.N.Nodup) (hy : X.N[i]? = some y) (hyl : X.env.scope.names.lookup y = some .local)
    (hsw : swapsWith (.ListComp elt [⟨tg, iter, ifs, 0⟩] scope pos) (some (.Name y py)) spos.line X.env = pure true) (hi : QI X tg iter wi) (ok : BlkOk X.N X.env.scope scope own)
    (hg : ∀ (s : Shared) (H : Hp) (C : Addr) (cl : List (Str × Addr)) (fp : List Addr), PG (X.blk s H scope (compEnvC scope cl C X.env) fp) tg g) (ht : ∀ (s : Shared) (H : Hp) (C : Addr) (cl : List (Str × Addr)) (fp : List Addr), QTs (X.blk s H scope (compEnvC scope cl C X.env) fp) ifs tt)
    (he : ∀ (s : Shared) (H : Hp) (C : Addr) (cl : List (Str × Addr)) (fp : List Addr), QE (X.blk s H scope (compEnvC scope cl C X.env) fp) elt te) (hs : ∀ x, foldedSetIterable iter X.env x = pure x := by intro _; rfl) :
    QS X (.Assign [.Name y py] (.ListComp elt [⟨tg, iter, ifs, 0⟩] scope pos) spos) (qAsg (qLc wi gd tt te (own.map (·.2))) (qgName i)) := by
  refine ps_imp (ps_setLc (wi := upI (qc X) wi) (g := g) (tt := upT (qc X) tt) (te := up (qc X) te) hc hN hy hyl hsw hi ok hg ht he hs) fun F σ H ⟨ρ, G, E, r, h, k⟩ => ?_
  refine lc_lift cg m σ H _ ⟨ρ, G, _, r, h, fun v H1 d G1 s g1 i' q => ?_⟩
  exact k.nx _ H1 _ G1 s ⟨(r.to s g1).rv.set i i', g1⟩ q
end
/-! pure comprehensions -/
def GSame (G G' : Gp) : Prop := ∀ a o, G a = some o → G' a = some o
theorem GSame.new {G : Gp} {p : Addr} {o : O} (h : G p = none) : GSame G (gup G p o) := fun a u e => by rw [gup_ne (gne_none e h)]; exact e
end TL
end
section
set_option Elab.async false
set_option linter.all false
set_option maxRecDepth 100000
set_option maxHeartbeats 4000000
namespace TL
open PySem PySem.Spec PyProof.Rows L2

/-! ### built-in calls on lists and tuples -/
/-- the items of a tuple, of a list or of the script -/
theorem SeqOf.sq2 {P : Program} {w : World} {K : PySem.W.Frag} {H : Hp} {G : Gp} (hg : RG P w K H G) {d : D} {v : V} {ds : List D} (i : IsD K H d v) (h : SeqOf G d ds) : ∃ a xs, v = .ref a ∧ IsDs K H ds xs ∧ (SqL K H a xs ∧ (∀ es, d ≠ .tup es) ∨ SqT K H a xs ∧ d = .tup ds) := by
  cases d with
  | tup es =>
    obtain ⟨a, xs, rfl, q, z⟩ := i
    obtain rfl : ds = es := h
    exact ⟨a, xs, rfl, z, .inr ⟨q, rfl⟩⟩
  | ref a =>
    obtain ⟨xs, q, z⟩ := hg a _ (show G a = some (.lst ds) from h)
    exact ⟨a, xs, i, z, .inl ⟨.inl (.inl q), fun _ z => by cases z⟩⟩
  | scr ns =>
    obtain rfl : ds = ns.map D.int := h
    obtain ⟨a, rfl, q⟩ := i
    exact ⟨a, _, rfl, IsDs.of_ints, .inl ⟨RoI.sqL q, fun _ z => by cases z⟩⟩
  | _ => exact h.elim
/-- an answer from the bools of a list -/
def rdBs (f : List Bool → Bool) : RCd := fun ds G Q => match ds with
  | [.ref a] => ∃ bs : List Bool, G a = some (.lst (bs.map .bl)) ∧ Q (.bl (f bs)) G
  | _ => False
theorem cq_all {X : Cx} (hc : X.calm = true) : CallQ X (.builtin "all") (rdBs fun bs => bs.all id) := by
  refine ⟨_, cr_all hc, fun H G xs ds Q R hg hx h k => ?_⟩
  unfold rdBs at h
  split at h
  · rename_i a
    obtain ⟨x, rfl, e⟩ := hx.one
    obtain ⟨bs, e1, q⟩ := h
    obtain ⟨us, e2, z⟩ := hg a _ e1
    have := z.bls; subst this
    exact ⟨a, bs, by rw [show x = V.ref a from e], .inl (.inl e2), k _ H (.bl _) G (Stay.refl H) hg rfl q⟩
  · exact h.elim
theorem cq_any {X : Cx} (hc : X.calm = true) : CallQ X (.builtin "any") (rdBs fun bs => bs.any id) := by
  refine ⟨_, cr_any hc, fun H G xs ds Q R hg hx h k => ?_⟩
  unfold rdBs at h
  split at h
  · rename_i a
    obtain ⟨x, rfl, e⟩ := hx.one
    obtain ⟨bs, e1, q⟩ := h
    obtain ⟨us, e2, z⟩ := hg a _ e1
    have := z.bls; subst this
    exact ⟨a, bs, by rw [show x = V.ref a from e], .inl (.inl e2), k _ H (.bl _) G (Stay.refl H) hg rfl q⟩
  · exact h.elim
/-! sum of a list or a tuple of ints -/
theorem sum_tupG {prog : Program} {w : World} {A : Around} {E : Value → Shared → Prop} {s : Shared} {l : Addr} {xs : Array (Int × Tok)} {Q : Value → Shared → Prop} (hh : A.handled = none) (hl : s.heap.IsTuple l (intItems xs))
    (h : ∀ h' tk t', (∀ b o, s.heap.get? b = some o → h'.get? b = some o) → Q (.int (preSum (numAt xs) xs.size) t') { s with heap := h', toks := tk }) :
    wpAny (model prog w) A (call (.builtin "sum") [.ref l]) Q E s := by
  have hlt : l < s.heap.objs.size := by obtain ⟨o, e, _⟩ := hl; exact Heap.lt_size e
  refine call_sum_walkG (wpAny_pyIter_tuple hl ?_)
  refine ⟨_, _, _, _, _, _, numAt xs, rfl, Walks.tuple (A := A.in1) hh s.heap.objs.size l (Nat.ne_of_lt hlt) (intItems xs), ?_, ?_, (fun _ _ => intItems_at), fun h' tk t' hk => ?_⟩
  · exact ⟨⟨_, Heap.get?_push_size _ rfl, rfl, rfl⟩, hl.push _⟩
  · intro b hb
    rw [Heap.size_push]
    have hb' : b = s.heap.objs.size ∨ b = l := by simpa using hb
    rcases hb' with e | e
    · rw [e]; exact Nat.lt_succ_self _
    · rw [e]; exact Nat.lt_succ_of_lt hlt
  · have := h h' tk t' fun b o e => hk b o (fun hm => by
      simp at hm; subst hm; exact absurd (Heap.lt_size e) (Nat.lt_irrefl _)) (Heap.get?_push_of_some _ e)
    simpa [intItems] using this
theorem sum_rawT {prog : Program} {w : World} {A : Around} {E : Value → Shared → Prop} {s : Shared} {l : Addr} {its : List Value} {ns : List Int} {Q : Value → Shared → Prop} (hh : A.handled = none) (hl : s.heap.IsTuple l its.toArray) (hi : IntsAre its ns)
    (h : ∀ h' tk t', (∀ b o, s.heap.get? b = some o → h'.get? b = some o) → Q (.int ns.sum t') { s with heap := h', toks := tk }) : wpAny (model prog w) A (call (.builtin "sum") [.ref l]) Q E s := by
  obtain ⟨xs, e⟩ := hi.allInts.items
  have hn : numsOf (intItems xs).toList = ns := by rw [← e]; exact hi.numsOf
  rw [nums_intItems] at hn
  rw [e] at hl
  refine sum_tupG hh hl fun h' tk t' hk => ?_
  have := h h' tk t' hk
  rw [preSum_eq, List.take_of_length_le (by simp), hn]; exact this
def rSumT (K : PySem.W.Frag) : List V → Hp → VK → Prop := fun vs H Q => ∃ (a : Addr) (ns : List Int), vs = [V.ref a] ∧ SqT K H a (ns.map V.int) ∧ Q (.int ns.sum) H
theorem cr_sumT {X : Cx} (hc : X.calm = true) : CallR X (.builtin "sum") (rSumT X.K) := by
  intro pins s σ H vs us Q I r h
  obtain ⟨a, ns, rfl, hs, q⟩ := h
  obtain ⟨its, rv, hl, _⟩ := I.tuple hs
  rw [Vals.ref1 r]
  exact sum_rawT (I.ok.hd hc) hl rv.ints fun h' tk t' hk => ⟨.int _, H, I.kept hk, ⟨_, rfl⟩, q⟩
/-- the ints among -/
def D.ints? : List D → Option (List Int)
  | [] => some []
  | .int i :: r => (D.ints? r).map (i :: ·)
  | _ :: _ => none
theorem D.ints_of : ∀ {ds : List D} {ns : List Int}, D.ints? ds = some ns → ds = ns.map .int
  | [], ns, h => by cases h; rfl
  | d :: r, ns, h => by
    cases d with
    | int i =>
      simp only [D.ints?, Option.map_eq_some_iff] at h
      obtain ⟨ms, e, rfl⟩ := h
      rw [D.ints_of e]; rfl
    | _ => simp [D.ints?] at h
theorem D.ints_map (ns : List Int) : D.ints? (ns.map .int) = some ns := by
  induction ns with
  | nil => rfl
  | cons i r ih => simp [D.ints?, ih]
/-- an answer from the ints of a list or a tuple -/
def rdSum : RCd := fun ds G Q => match ds with
  | [d] => ∃ ns : List Int, SeqOf G d (ns.map .int) ∧ Q (.int ns.sum) G
  | _ => False
theorem cq_sum {X : Cx} (hc : X.calm = true) : CallQ X (.builtin "sum") rdSum := by
  refine ⟨_, (cr_sum hc).or (cr_sumT hc), fun H G xs ds Q R hg hx h k => ?_⟩
  unfold rdSum at h
  split at h
  · rename_i d
    obtain ⟨x, rfl, e⟩ := hx.one
    obtain ⟨ns, e1, q⟩ := h
    obtain ⟨a, us, rfl, z, hs | hs⟩ := SeqOf.sq2 hg e e1
    · have := z.ints; subst this
      exact .inl ⟨a, ns, rfl, hs.1, k _ H (.int _) G (Stay.refl H) hg rfl q⟩
    · have := z.ints; subst this
      exact .inr ⟨a, ns, rfl, hs.1, k _ H (.int _) G (Stay.refl H) hg rfl q⟩
  · exact h.elim
/-- max, min of a list of ints -/
def rdBest (le : Int → Int → Prop) : RCd := fun ds G Q => match ds with
  | [.ref a] => ∃ ns : List Int, G a = some (.lst (ns.map .int)) ∧ 0 < ns.length ∧ ∀ m, m ∈ ns → (∀ y, y ∈ ns → le y m) → Q (.int m) G
  | _ => False
theorem cq_maxL {X : Cx} (hc : X.calm = true) : CallQ X (.builtin "max") (rdBest fun y m => y ≤ m) := by
  refine ⟨_, cr_max hc, fun H G xs ds Q R hg hx h k => ?_⟩
  unfold rdBest at h
  split at h
  · rename_i a
    obtain ⟨x, rfl, e⟩ := hx.one
    obtain ⟨ns, e1, l, q⟩ := h
    obtain ⟨us, e2, z⟩ := hg a _ e1
    have := z.ints; subst this
    exact ⟨a, ns, by rw [show x = V.ref a from e], .inl (.inl e2), l, fun m h1 h2 => k _ H (.int _) G (Stay.refl H) hg rfl (q m h1 h2)⟩
  · exact h.elim
theorem cq_minL {X : Cx} (hc : X.calm = true) : CallQ X (.builtin "min") (rdBest fun y m => m ≤ y) := by
  refine ⟨_, cr_min hc, fun H G xs ds Q R hg hx h k => ?_⟩
  unfold rdBest at h
  split at h
  · rename_i a
    obtain ⟨x, rfl, e⟩ := hx.one
    obtain ⟨ns, e1, l, q⟩ := h
    obtain ⟨us, e2, z⟩ := hg a _ e1
    have := z.ints; subst this
    exact ⟨a, ns, by rw [show x = V.ref a from e], .inl (.inl e2), l, fun m h1 h2 => k _ H (.int _) G (Stay.refl H) hg rfl (q m h1 h2)⟩
  · exact h.elim
/-- sorted of a list of ints -/
def rdSorted : RCd := fun ds G Q => match ds with
  | [.ref a] => ∃ ns : List Int, G a = some (.lst (ns.map .int)) ∧ ∀ (ns' : List Int) (p : Addr), ns'.Perm ns → ns'.Pairwise (· ≤ ·) → G p = none → Q (.ref p) (gup G p (.lst (ns'.map .int)))
  | _ => False
theorem cq_sorted {X : Cx} : CallQ X (.builtin "sorted") rdSorted := by
  refine ⟨_, cr_sortedI, fun H G xs ds Q R hg hx h k => ?_⟩
  unfold rdSorted at h
  split at h
  · rename_i a
    obtain ⟨x, rfl, e⟩ := hx.one
    obtain ⟨ns, e1, q⟩ := h
    obtain ⟨us, e2, z⟩ := hg a _ e1
    have := z.ints; subst this
    refine ⟨a, ns, by rw [show x = V.ref a from e], .inl (.inl e2), fun ns' p h1 h2 h3 => k _ _ (.ref p) _ (Stay.new h3) (hg.add (o := .lst (ns'.map .int)) h3 ⟨_, upd_same, IsDs.of_ints⟩) rfl (q ns' p h1 h2 (hg.fresh h3))⟩
  · exact h.elim
/-- list(x) -/
def rdList : RCd := fun ds G Q => match ds with
  | [d] => ∃ es, SeqOf G d es ∧ ∀ p, G p = none → Q (.ref p) (gup G p (.lst es))
  | _ => False
theorem cq_list {X : Cx} : CallQ X (.type "list") rdList := by
  refine ⟨_, call_list_of, fun H G xs ds Q R hg hx h k => ?_⟩
  unfold rdList at h
  split at h
  · rename_i d
    obtain ⟨x, rfl, e⟩ := hx.one
    obtain ⟨es, e1, q⟩ := h
    obtain ⟨a, us, rfl, z, hs⟩ := SeqOf.sq2 hg e e1
    refine ⟨a, us, rfl, hs.imp And.left And.left, fun p hp => k _ _ (.ref p) _ (Stay.new hp) (hg.add (o := .lst es) hp ⟨_, upd_same, z.stay (Stay.new hp)⟩) rfl (q p (hg.fresh hp))⟩
  · exact h.elim
/-- tuple(x) -/
def rdTuple : RCd := fun ds G Q => match ds with
  | [d] => ∃ es, SeqOf G d es ∧ Q (.tup es) G
  | _ => False
theorem cq_tuple {X : Cx} : CallQ X (.type "tuple") rdTuple := by
  refine ⟨_, call_tuple_of, fun H G xs ds Q R hg hx h k => ?_⟩
  unfold rdTuple at h
  split at h
  · rename_i d
    obtain ⟨x, rfl, e⟩ := hx.one
    obtain ⟨es, e1, q⟩ := h
    obtain ⟨a, us, rfl, z, hs | hs⟩ := SeqOf.sq2 hg e e1
    · refine ⟨a, us, rfl, .inl ⟨hs.1, fun p hp => k _ _ (.tup es) G (Stay.new hp) (hg.new hp) ⟨p, us, rfl, .inl (.inl upd_same), z.stay (Stay.new hp)⟩ q⟩⟩
    · refine ⟨a, us, rfl, .inr ⟨hs.1, k _ H (.tup es) G (Stay.refl H) hg ⟨a, us, rfl, hs.1, z⟩ q⟩⟩
  · exact h.elim
end TL
end
section
set_option Elab.async false
set_option linter.all false
set_option maxRecDepth 100000
set_option maxHeartbeats 4000000
namespace TL
open PySem PySem.Spec PyProof.Rows L2

/-! ### dicts as lists of pairs -/
def dget : List (D × D) → D → Option D
  | [], _ => none
  | q :: r, k => if q.1 = k then some q.2 else dget r k
def dset : List (D × D) → D → D → List (D × D)
  | [], _, _ => []
  | q :: r, k, v => (if q.1 = k then (q.1, v) else q) :: dset r k v
def dput (kvs : List (D × D)) (k v : D) : List (D × D) := if (dget kvs k).isSome = true then dset kvs k v else kvs ++ [(k, v)]
theorem dset_len : ∀ (kvs : List (D × D)) (k v : D), (dset kvs k v).length = kvs.length
  | [], _, _ => rfl
  | _ :: r, k, v => by simp [dset, dset_len r k v]
theorem dput_len (kvs : List (D × D)) (k v : D) : (dput kvs k v).length ≤ kvs.length + 1 := by
  unfold dput; split
  · rw [dset_len]; omega
  · simp
theorem dget_dset : ∀ (kvs : List (D × D)) (k v j : D), dget (dset kvs k v) j = if j = k ∧ (dget kvs k).isSome = true then some v else dget kvs j
  | [], k, v, j => by simp [dset, dget]
  | q :: r, k, v, j => by
    have ih := dget_dset r k v j
    unfold dset dget
    by_cases h : q.1 = k
    · rw [if_pos h]
      by_cases e : j = k
      · subst e; simp [h]
      · have n : ¬ q.1 = j := fun z => e (z.symm.trans h)
        simp only [h, if_true] at ih ⊢
        rw [if_neg (by rw [← h]; exact n), ih, if_neg (fun z => e z.1), if_neg (fun z => e z.1)]
        rw [← h, if_neg n]
    · rw [if_neg h]
      by_cases e : q.1 = j
      · rw [if_pos e, if_pos e, if_neg (fun z => h (e.trans z.1))]
      · rw [if_neg e, if_neg e, if_neg h, ih]
theorem dget_app : ∀ (kvs : List (D × D)) (k v j : D), dget (kvs ++ [(k, v)]) j = match dget kvs j with | some x => some x | none => if k = j then some v else none
  | [], k, v, j => by simp [dget]
  | q :: r, k, v, j => by
    have ih := dget_app r k v j
    rw [List.cons_append]
    unfold dget
    by_cases h : q.1 = j
    · rw [if_pos h, if_pos h]
    · rw [if_neg h, if_neg h, ih]
theorem dget_put (kvs : List (D × D)) (k v j : D) : dget (dput kvs k v) j = if j = k then some v else dget kvs j := by
  unfold dput
  by_cases h : (dget kvs k).isSome = true
  · rw [if_pos h, dget_dset]
    by_cases e : j = k
    · rw [if_pos ⟨e, h⟩, if_pos e]
    · rw [if_neg (fun z => e z.1), if_neg e]
  · rw [if_neg h, dget_app]
    have n : dget kvs k = none := Option.not_isSome_iff_eq_none.mp h
    by_cases e : j = k
    · subst e; simp [n]
    · rw [if_neg e, if_neg (fun z => e z.symm)]
      cases dget kvs j <;> rfl

/-! ### keys that are tuples -/
section
variable {X : Cx} {pins : List (Addr × Obj)} {σ : L2.St} {H : Hp} {s : Shared}
mutual
theorem nest_of (I : Inv X pins σ H s) : ∀ {d : D} {v : V} {u : Value}, IsD X.K H d v → RelV v u → d.keyok = true → NestedIs s.heap d.nk u
  | .non, _, _, i, r, _ => by rw [show _ = V.non from i] at r; rw [show _ = Value.none from r]; exact .none
  | .bl _, _, _, _, _, k => by simp [D.keyok] at k
  | .int n, _, _, i, r, _ => by rw [show _ = V.int n from i] at r; obtain ⟨t, rfl⟩ := r; exact .int n t
  | .str x, _, _, i, r, _ => by rw [show _ = V.str x from i] at r; obtain ⟨t, rfl⟩ := r; exact .text x t
  | .ref _, _, _, _, _, k => by simp [D.keyok] at k
  | .scr _, _, _, _, _, k => by simp [D.keyok] at k
  | .tup ds, _, _, i, r, k => by
    obtain ⟨a, xs, rfl, q, z⟩ := i
    obtain rfl : _ = Value.ref a := r
    obtain ⟨its, rv, ⟨o, e1, e2, n, e3⟩, _⟩ := I.tuple q
    exact .tup e1 e2 e3 (by have := nests_of I z rv (by simpa [D.keyok] using k); simpa using this)
theorem nests_of (I : Inv X pins σ H s) : ∀ {ds : List D} {vs : List V} {us : List Value}, IsDs X.K H ds vs → Vals vs us → D.keyoks ds = true → NestedAll s.heap (D.nks ds) us
  | [], vs, us, i, r, _ => by rw [show vs = [] from i] at r; cases r; exact .nil
  | d :: ds, vs, us, i, r, k => by
    obtain ⟨v, t, rfl, i1, i2⟩ := i
    rw [D.keyoks, Bool.and_eq_true] at k
    cases r with
    | cons r1 r2 => exact .cons (nest_of I i1 r1 k.1) (nests_of I i2 r2 k.2)
end
theorem tkey_parts {d : D} (h : d.tkey = true) : d.isTup = true ∧ d.keyok = true ∧ d.dep ≤ 8 := by
  unfold D.tkey at h
  simp only [Bool.and_eq_true, decide_eq_true_eq] at h
  exact ⟨h.1.1, h.1.2, h.2⟩
theorem kind_of (I : Inv X pins σ H s) {d : D} {a : Addr} (i : IsD X.K H d (.ref a)) (k : d.tkey = true) : (nestedKind X.prog X.w).is s.heap d.nk a := by
  obtain ⟨_, k1, k2⟩ := tkey_parts k
  exact ⟨nest_of I i rfl k1, by rw [D.nk_dep]; exact k2⟩
theorem tkey_ref {K : PySem.W.Frag} {H : Hp} {d : D} {v : V} (i : IsD K H d v) (k : d.tkey = true) : ∃ a, v = .ref a := by
  cases d with
  | tup ds => obtain ⟨a, _, e, _⟩ := i; exact ⟨a, e⟩
  | _ => simp [D.tkey, D.isTup] at k
theorem ent_at {K : PySem.W.Frag} {H : Hp} {k : D} (hk : k.tkey = true) : ∀ {xs : List (NestedKey × Addr × Value)} {kvs : List (D × D)}, Paired (Ent K H) xs kvs →
    match dget kvs k with | none => atKey xs k.nk = none | some d => ∃ b u v, atKey xs k.nk = some (b, u) ∧ RelV v u ∧ IsD K H d v := by
  intro xs kvs h
  induction h with
  | nil => rfl
  | @cons x q xs kvs h t ih =>
    obtain ⟨h1, h2, h3, v, h4, h5⟩ := h
    unfold dget
    by_cases e : q.1 = k
    · rw [if_pos e]
      refine ⟨x.2.1, x.2.2, v, ?_, h4, h5⟩
      unfold atKey
      rw [List.find?_cons_of_pos (by rw [h2, e]; simp)]; rfl
    · rw [if_neg e]
      have n : ¬ x.1 = k.nk := fun z => e (D.nk_inj _ _ (tkey_parts h1).2.1 (tkey_parts hk).2.1 (h2.symm.trans z))
      have ea : atKey (x :: xs) k.nk = atKey xs k.nk := by unfold atKey; rw [List.find?_cons_of_neg (by simpa using n)]
      rw [ea]
      exact ih
theorem ent_set {K : PySem.W.Frag} {H : Hp} {k d : D} {u : Value} {v : V} (hk : k.tkey = true) (r : RelV v u) (i : IsD K H d v) : ∀ {xs : List (NestedKey × Addr × Value)} {kvs : List (D × D)}, Paired (Ent K H) xs kvs →
    Paired (Ent K H) (xs.map (putAt k.nk u)) (dset kvs k d) := by
  intro xs kvs h
  induction h with
  | nil => exact .nil
  | @cons x q xs kvs h t ih =>
    obtain ⟨h1, h2, h3, v', h4, h5⟩ := h
    rw [List.map_cons]
    unfold dset
    refine .cons ?_ ih
    by_cases e : q.1 = k
    · rw [if_pos e]
      unfold putAt
      rw [if_pos (by rw [h2, e])]
      exact ⟨h1, h2, h3, v, r, i⟩
    · rw [if_neg e]
      have n : ¬ x.1 = k.nk := fun z => e (D.nk_inj _ _ (tkey_parts h1).2.1 (tkey_parts hk).2.1 (h2.symm.trans z))
      unfold putAt
      rw [if_neg n]
      exact ⟨h1, h2, h3, v', h4, h5⟩
theorem ent_put {K : PySem.W.Frag} {H : Hp} {k d : D} {a : Addr} {u : Value} {v : V} (hk : k.tkey = true) (ik : IsD K H k (.ref a)) (r : RelV v u) (i : IsD K H d v) {xs : List (NestedKey × Addr × Value)} {kvs : List (D × D)} (h : Paired (Ent K H) xs kvs) :
    Paired (Ent K H) (storedH xs k.nk a u) (dput kvs k d) := by
  have q := ent_at hk h
  unfold dput
  cases e : dget kvs k with
  | none =>
    rw [e] at q
    rw [storedH_new q, if_neg (by simp)]
    exact Paired.snoc h ⟨hk, rfl, ik, v, r, i⟩
  | some z =>
    rw [e] at q
    obtain ⟨b, u', v', q1, _⟩ := q
    rw [storedH_old q1, if_pos (by simp)]
    exact ent_set hk r i h
theorem ent_mem {α β : Type} {F : α → β → Prop} {l : List α} {m : List β} (h : Paired F l m) : ∀ x ∈ l, ∃ y, F x y := by
  induction h with
  | nil => intro x hx; exact nomatch hx
  | @cons a b l m h t ih =>
    intro x hx
    rcases List.mem_cons.mp hx with e | hx
    · subst e; exact ⟨b, h⟩
    · exact ih x hx
theorem raw_ok {P : Program} {w : World} {H' : Hp} {h : Heap} {a : Addr} {o : Obj} (e : h.get? a = some o) : ObjOk P w H' h a (.ext fun h => h.get? a = some o) :=
  ⟨e, ⟨o, e⟩, fun _ _ q k => k o q⟩
/-- the dict as the library tells it -/
theorem tup_raw (I : Inv X pins σ H s) {a : Addr} {kvs : List (D × D)} (h : TupAt X.prog X.w X.K H a kvs) : ∃ xs, s.heap.DictOfH (nestedKind X.prog X.w) a xs ∧ Paired (Ent X.K H) xs kvs ∧ (a == sysModules) = false ∧ Mut (H a) ∧ kvs.length ≤ sizeLine := by
  obtain ⟨o, es, ep, xs, q, r1, r2, r3, r4, r5, r6, r7⟩ := h
  have ho : s.heap.get? a = some o := (show ObjOk X.prog X.w H s.heap a (.ext fun h => h.get? a = some o) from I.hok a _ q).1
  refine ⟨xs, ⟨o, es, ep, ho, r1, r2, r4, fun x hx => ?_, r5⟩, r6, r3, by rw [q]; trivial, r7⟩
  obtain ⟨y, h1, h2, h3, _⟩ := ent_mem r6 x hx
  rw [h2]
  exact kind_of I h3 h1
/-- a dict whose object is new: its abstract form -/
theorem tup_write (I : Inv X pins σ H s) {a : Addr} {kvs : List (D × D)} {xs : List (NestedKey × Addr × Value)} {h' : Heap} {t' : Nat} (mu : Mut (H a)) (hs : Heap.SameBut a s.heap h') (dd : h'.DictOfH (nestedKind X.prog X.w) a xs) (hd : (a == sysModules) = false)
    (r : Paired (Ent X.K H) xs kvs) (hz : kvs.length ≤ sizeLine) : ∃ o : Obj, Inv X pins σ (upd H a (.ext fun h => h.get? a = some o)) { s with heap := h', toks := t' } ∧
      (Stay H (upd H a (.ext fun h => h.get? a = some o)) → TupAt X.prog X.w X.K (upd H a (.ext fun h => h.get? a = some o)) a kvs) := by
  obtain ⟨o, es, ep, ho, h1, h2, h3, _, h5⟩ := dd
  exact ⟨o, d_write I mu hs ⟨o, ho⟩ (raw_ok ho), fun st => ⟨o, es, ep, xs, upd_same, h1, h2, hd, h3, h5, pair_mono r fun _ _ z => z.stay st, hz⟩⟩
theorem mut_stay {H : Hp} {a : Addr} {u : HO} (mu : Mut (H a)) : Stay H (upd H a u) := by
  cases e : H a with
  | none => rw [e] at mu; exact mu.elim
  | some v =>
    rw [e] at mu
    exact Stay.put e (fun xs z => by subst z; exact mu) fun x y z => by subst z; exact mu
end
section
variable {X : Cx} {o i e value : Expr} {pos pos' : Pos} {td ty tv : TEd}
/-- {} -/
def qNewT : TEd := fun _ G Q => ∀ p, G p = none → Q (.ref p) (gup G p (.tct []))
theorem q_newT : QE X (.Dict [] [] pos) qNewT := ⟨fun pins s σ H Q I h => by
  obtain ⟨ρ, G, Qd, r, q, k⟩ := h
  have hn := I.hok.fresh (Nat.le_refl s.heap.objs.size)
  have hb := I.big
  refine wpAny_Dict_empty ⟨.ref s.heap.objs.size, upd H s.heap.objs.size (.ext fun h => h.get? s.heap.objs.size = some { cls := .type "dict", data := .dict #[] }), I.laid (a := s.heap.objs.size) (t' := s.toks) (fun _ _ q => Heap.get?_push_of_some _ q) (Nat.le_refl _) (raw_ok (Heap.get?_push_size _ rfl)), rfl, ?_⟩
  refine k _ _ (.ref _) (gup G s.heap.objs.size (.tct [])) (Stay.new hn) (r.rg.add hn ⟨_, #[], 0, [], upd_same, ⟨rfl, rfl, rfl⟩, rfl, beq_eq_false_iff_ne.mpr (Ne.symm (Nat.ne_of_lt hb)), rfl, List.nodup_nil, .nil, Nat.zero_le _⟩) rfl (q _ (r.rg.fresh hn))⟩
def qNewL : TEd := fun _ G Q => ∀ p, G p = none → Q (.ref p) (gup G p (.dct []))
theorem q_newL : QE X (.Dict [] [] pos) qNewL := pe_imp pe_dnewK fun σ H R ⟨ρ, G, Q, r, h, k⟩ p hp =>
  k _ _ (.ref p) _ (Stay.new hp) (r.rg.add (o := .dct []) hp ⟨[], upd_same, .nil⟩) rfl (h p (r.rg.fresh hp))
/-- y in d -/
def rdTIn (neg : Bool → Bool) : R2d := fun y x G Q => match x with
  | .ref a => ∃ kvs, G a = some (.tct kvs) ∧ y.tkey = true ∧ Q (.bl (neg (dget kvs y).isSome)) G
  | _ => False
theorem isSome_eq {k : D} {K : PySem.W.Frag} {H : Hp} (hk : k.tkey = true) {xs : List (NestedKey × Addr × Value)} {kvs : List (D × D)} (r : Paired (Ent K H) xs kvs) : (atKey xs k.nk).isSome = (dget kvs k).isSome := by
  have q := ent_at hk r
  cases e : dget kvs k with
  | none => rw [e] at q; rw [q]; rfl
  | some d => rw [e] at q; obtain ⟨b, u, v, q1, _⟩ := q; rw [q1]; rfl
def rTIn (P : Program) (w : World) (K : PySem.W.Frag) (neg : Bool → Bool) : R2 := fun y x H Q => ∃ a kvs k, x = .ref a ∧ TupAt P w K H a kvs ∧ k.tkey = true ∧ IsD K H k y ∧ Q (.bl (neg (dget kvs k).isSome)) H
theorem op_tin (hu : X.A.units + 64 < cLine) : OpR X (compareOp .In) (rTIn X.prog X.w X.K id) := by
  intro pins s σ H x y u v Q I rx ry h
  obtain ⟨a, kvs, k, rfl, hT, hk, ik, q⟩ := h
  obtain rfl : v = Value.ref a := ry
  obtain ⟨b, rfl⟩ := tkey_ref ik hk
  obtain rfl : u = Value.ref b := rx
  obtain ⟨xs, dd, r, hd, mu, hz⟩ := tup_raw I hT
  refine wpAny_in_heap (knd := nestedKind X.prog X.w) (show (X.A.units + 1) + 8 < cLine by omega) (kind_of I ik hk) hd dd ?_
  rw [isSome_eq hk r]
  exact ⟨.bl _, H, I.tok _, rfl, q⟩
theorem op_tnin (hu : X.A.units + 64 < cLine) : OpR X (compareOp .NotIn) (rTIn X.prog X.w X.K not) := by
  intro pins s σ H x y u v Q I rx ry h
  obtain ⟨a, kvs, k, rfl, hT, hk, ik, q⟩ := h
  obtain rfl : v = Value.ref a := ry
  obtain ⟨b, rfl⟩ := tkey_ref ik hk
  obtain rfl : u = Value.ref b := rx
  obtain ⟨xs, dd, r, hd, mu, hz⟩ := tup_raw I hT
  refine wpAny_notIn_heap (knd := nestedKind X.prog X.w) (show (X.A.units + 1) + 8 < cLine by omega) (kind_of I ik hk) hd dd ?_
  rw [isSome_eq hk r]
  exact ⟨.bl _, H, I.tok _, rfl, q⟩
theorem lift_tin {neg : Bool → Bool} : Lift2 (qc X) (rTIn X.prog X.w X.K neg) (rdTIn neg) := by
  intro H G x y d e Q R hg ix iy h k
  unfold rdTIn at h
  split at h
  · rename_i a
    obtain ⟨kvs, e1, e2, q⟩ := h
    exact ⟨a, kvs, d, iy, hg a _ e1, e2, ix, k _ H (.bl _) G (Stay.refl H) hg rfl q⟩
  · exact h.elim
theorem oq_tin (hu : X.A.units + 64 < cLine) : OpQ X (compareOp .In) (rdTIn id) := ⟨_, op_tin hu, lift_tin⟩
theorem oq_tnin (hu : X.A.units + 64 < cLine) : OpQ X (compareOp .NotIn) (rdTIn not) := ⟨_, op_tnin hu, lift_tin⟩
/-- d[y], there -/
def rdTGet : R2d := fun x y G Q => match x with
  | .ref a => ∃ kvs, G a = some (.tct kvs) ∧ y.tkey = true ∧ ∃ v, dget kvs y = some v ∧ Q v G
  | _ => False
theorem q_tget (hu : X.A.units + 64 < cLine) (ho : QE X o td) (hi : QE X i ty) (hs : NoSl i := by intro _ _; rfl) : QE X (.Subscript o i pos) (qBin rdTGet td ty) := by
  refine ⟨fun pins s σ H Q I h => ?_⟩
  obtain ⟨ρ, G, Qd, r, h, kk⟩ := h
  refine subD_of PySem.F.slot_dict_getitem.lookup hs (thn (ho.run pins s σ H _ I (up_on (R := fun x H1 => ∃ d G1, Stay H H1 ∧ RG X.prog X.w X.K H1 G1 ∧ IsD X.K H1 d x ∧ ty ρ G1 fun y G2 => rdTGet d y G2 Qd) r h fun x H1 d G1 s1 g1 i1 q1 => ⟨d, G1, s1, g1, i1, q1⟩))
    fun u s1 ⟨x, H1, I1, rx, d, G1, t1, g1, i1, q1⟩ => thn (hi.run pins s1 σ H1 _ I1 (up_on (R := fun y H2 => ∃ e G2, Stay H1 H2 ∧ RG X.prog X.w X.K H2 G2 ∧ IsD X.K H2 e y ∧ rdTGet d e G2 Qd) (r.to t1 g1) q1 fun y H2 e G2 s2 g2 i2 q2 => ⟨e, G2, s2, g2, i2, q2⟩)) fun iv s2 ⟨y, H2, I2, ry, e, G2, t2, g2, i2, q2⟩ => ?_)
  cases d with
  | ref a =>
    obtain ⟨kvs, e1, hk, v, e2, q⟩ := q2
    obtain rfl : x = V.ref a := i1
    obtain rfl : u = Value.ref a := rx
    obtain ⟨b, rfl⟩ := tkey_ref i2 hk
    obtain rfl : iv = Value.ref b := ry
    obtain ⟨xs, dd, pr, hd, mu, hz⟩ := tup_raw I2 (g2 a _ e1)
    have z := ent_at hk pr
    rw [e2] at z
    obtain ⟨b', u', v', z1, z2, z3⟩ := z
    exact ⟨dd.typeIs, wpAny_getItem_heap (knd := nestedKind X.prog X.w) (show (X.A.units + 1) + 8 < cLine by omega) (kind_of I2 i2 hk) dd z1 ⟨v', H2, I2.tok _, z2, kk _ _ v G2 (t1.trans t2) g2 z3 q⟩⟩
  | _ => exact q2.elim
/-- d[y] = v -/
def putT (x y v : D) (G : Gp) (Q : Gp → Prop) : Prop := match x with
  | .ref a => ∃ kvs, G a = some (.tct kvs) ∧ y.tkey = true ∧ kvs.length < sizeLine ∧ Q (gup G a (.tct (dput kvs y v)))
  | _ => False
def pTPut (P : Program) (w : World) (K : PySem.W.Frag) : V → V → V → Hp → (Hp → Prop) → Prop := fun x y v H R => ∃ (G : Gp) (d e f : D) (Q : Gp → Prop), RG P w K H G ∧ IsD K H d x ∧ IsD K H e y ∧ IsD K H f v ∧ putT d e f G Q ∧
  ∀ H1 G1, Stay H H1 → RG P w K H1 G1 → Q G1 → R H1
theorem set_tput (hu : X.A.units + 64 < cLine) : PSet X (pTPut X.prog X.w X.K) := by
  intro pins s σ H x y v ov iv u R I rx ry rv h
  obtain ⟨G, d, e, f, Q, hg, i1, i2, i3, q2, kk⟩ := h
  unfold putT at q2
  split at q2
  · rename_i a
    obtain ⟨kvs, e1, hk, hl, q⟩ := q2
    obtain rfl : x = V.ref a := i1
    obtain rfl : ov = Value.ref a := rx
    obtain ⟨b, rfl⟩ := tkey_ref i2 hk
    obtain rfl : iv = Value.ref b := ry
    obtain ⟨xs, dd, pr, hd, mu, hz⟩ := tup_raw I (hg a _ e1)
    have hxl : xs.length ≤ sizeLine := by rw [Paired.length pr]; exact hz
    refine wpAny_setItem_heap (knd := nestedKind X.prog X.w) (hsz := hxl) (show (X.A.units + 1) + 8 < cLine by omega) (kind_of I i2 hk) dd fun h' dd' hs => ?_
    obtain ⟨o', I', tt⟩ := tup_write (t' := s.toks + (nestedKind X.prog X.w).draws e.nk) I mu hs dd' hd (ent_put hk i2 rv i3 pr) (by have := dput_len kvs e f; omega)
    have st := mut_stay (u := .ext fun h => h.get? a = some o') mu
    refine ⟨_, I', kk _ _ st (fun c z ez => ?_) q⟩
    by_cases qa : c = a
    · subst qa; rw [gup_same] at ez; cases ez; exact tt st
    · rw [gup_ne qa] at ez
      exact (hg c z ez).stay st fun u' e' => by rw [upd_ne qa]; exact e'
  · exact q2.elim
def qTPut (td ty tv : TEd) : TSd := fun E ρ G => tv ρ G fun v G1 => td ρ G1 fun x G2 => ty ρ G2 fun y G3 => putT x y v G3 fun G4 => E.nx ρ G4
theorem qs_tput (hu : X.A.units + 64 < cLine) (ho : QE X o td) (hi : QE X i ty) (hv : QE X value tv) (hs : swapsWith value (some (.Subscript o i pos')) pos.line X.env = pure false := by rfl) :
    QS X (.Assign [.Subscript o i pos'] value pos) (qTPut td ty tv) := by
  refine ⟨fun pins s σ H F I h => ?_⟩
  obtain ⟨ρ, G, E, r, h, kk⟩ := h
  refine wpAny_Assign_Subscript (thn (hv.run pins s σ H _ I (up_on (R := fun x H1 => ∃ d G1, Stay H H1 ∧ RG X.prog X.w X.K H1 G1 ∧ IsD X.K H1 d x ∧ td ρ G1 fun x G2 => ty ρ G2 fun y G3 => putT x y d G3 fun G4 => E.nx ρ G4) r h fun x H1 d G1 s1 g1 i1 q1 => ⟨d, G1, s1, g1, i1, q1⟩))
    fun w1 s1 ⟨vv, H1, I1, rv, f, G1, t1, g1, i1, q1⟩ => thn (ho.run pins s1 σ H1 _ I1 (up_on (R := fun x H2 => ∃ d G2, Stay H1 H2 ∧ RG X.prog X.w X.K H2 G2 ∧ IsD X.K H2 d x ∧ ty ρ G2 fun y G3 => putT d y f G3 fun G4 => E.nx ρ G4) (r.to t1 g1) q1 fun x H1 d G1 s1 g1 i1 q1 => ⟨d, G1, s1, g1, i1, q1⟩))
    fun w2 s2 ⟨x, H2, I2, rx, d, G2, t2, g2, i2, q2⟩ => thn (hi.run pins s2 σ H2 _ I2 (up_on (R := fun y H3 => ∃ e G3, Stay H2 H3 ∧ RG X.prog X.w X.K H3 G3 ∧ IsD X.K H3 e y ∧ putT d e f G3 fun G4 => E.nx ρ G4) ((r.to t1 g1).to t2 g2) q2 fun x H1 d G1 s1 g1 i1 q1 => ⟨d, G1, s1, g1, i1, q1⟩))
    fun w3 s3 ⟨y, H3, I3, ry, e, G3, t3, g3, i3, q3⟩ => ?_) hs
  have b1 := (t1.trans t2).trans t3
  exact thn (set_tput hu pins s3 σ H3 x y vv w2 w3 w1 (fun H4 => ∃ G4, Stay H3 H4 ∧ RG X.prog X.w X.K H4 G4 ∧ E.nx ρ G4) I3 rx ry rv ⟨G3, d, e, f, _, g3, i2.stay t3, i3, i1.stay (t2.trans t3), q3, fun H1 G1 a b c => ⟨G1, a, b, c⟩⟩) fun _ s4 ⟨H4, I4, G4, t4, g4, q4⟩ =>
    ⟨σ, H4, I4, kk.nx σ H4 ρ G4 (b1.trans t4) (r.to (b1.trans t4) g4) q4⟩
end
end TL
end
section
set_option Elab.async false
set_option linter.all false
set_option maxRecDepth 100000
set_option maxHeartbeats 4000000
namespace TL
open PySem PySem.Spec PyProof.Rows L2

/-! ### dicts with ints and texts as keys -/
section
variable {K : PySem.W.Frag} {H : Hp}
abbrev LEnt (K : PySem.W.Frag) (H : Hp) : Key × V → D × D → Prop := fun p q => q.1 = keyD p.1 ∧ IsD K H q.2 p.2
theorem keyD_inj : ∀ {a b : Key}, keyD a = keyD b → a = b
  | .inl a, .inl b, h => by cases h; rfl
  | .inr a, .inr b, h => by cases h; rfl
  | .inl a, .inr b, h => by cases h
  | .inr a, .inl b, h => by cases h
theorem lkey_of {d : D} (h : d.lkey = true) : ∃ k : Key, d = keyD k := by
  cases d with
  | int i => exact ⟨.inl i, rfl⟩
  | str x => exact ⟨.inr x, rfl⟩
  | _ => simp [D.lkey] at h
theorem isD_key {k : Key} {v : V} (h : IsD K H (keyD k) v) : v = kV k := by
  cases k <;> exact h
theorem lent_at {k : Key} {ls : List (Key × V)} {kvs : List (D × D)} (h : Paired (LEnt K H) ls kvs) : match dget kvs (keyD k) with | none => valV ls k = none | some d => ∃ v, valV ls k = some v ∧ IsD K H d v := by
  induction h with
  | nil => rfl
  | @cons x q xs kvs h t ih =>
    unfold dget
    by_cases e : q.1 = keyD k
    · rw [if_pos e]
      exact ⟨x.2, valV_pos (keyD_inj (h.1.symm.trans e)), h.2⟩
    · rw [if_neg e, valV_neg (fun z => e (by rw [h.1, z]))]
      exact ih
theorem lent_put {k : Key} {v : V} {d : D} {ls : List (Key × V)} {kvs : List (D × D)} (h : Paired (LEnt K H) ls kvs) (i : IsD K H d v) : Paired (LEnt K H) (putK ls k v) (dput kvs (keyD k) d) := by
  have q := lent_at (k := k) h
  unfold dput putK
  rw [valV_any]
  cases e : dget kvs (keyD k) with
  | none =>
    rw [e] at q
    rw [q, if_neg (by simp), if_neg (by simp)]
    exact Paired.snoc h ⟨rfl, i⟩
  | some z =>
    rw [e] at q
    obtain ⟨v', q1, _⟩ := q
    rw [q1, if_pos (by simp), if_pos (by simp)]
    clear e q1
    induction h with
    | nil => exact .nil
    | @cons x q xs kvs h t ih =>
      rw [List.map_cons]
      unfold dset
      refine .cons ?_ ih
      by_cases e : q.1 = keyD k
      · rw [if_pos e, if_pos (keyD_inj (h.1.symm.trans e))]; exact ⟨h.1, i⟩
      · rw [if_neg e, if_neg (fun z => e (by rw [h.1, z]))]; exact h
end
section
variable {X : Cx} {o i e f value : Expr} {pos pos' apos cpos : Pos} {td ty tv tx : TEd}
theorem rdl_of {G : Gp} {H : Hp} {a : Addr} {kvs : List (D × D)} {y : D} {v : V} (hg : RG X.prog X.w X.K H G) (e1 : G a = some (.dct kvs)) (hk : y.lkey = true) (i : IsD X.K H y v) :
    ∃ ls k, H a = some (.dK ls) ∧ y = keyD k ∧ v = kV k ∧ Paired (LEnt X.K H) ls kvs := by
  obtain ⟨ls, q, r⟩ := hg a _ e1
  obtain ⟨k, rfl⟩ := lkey_of hk
  exact ⟨ls, k, q, rfl, isD_key i, r⟩
/-- d[y], there -/
def rdLGet : R2d := fun x y G Q => match x with
  | .ref a => ∃ kvs, G a = some (.dct kvs) ∧ y.lkey = true ∧ ∃ v, dget kvs y = some v ∧ Q v G
  | _ => False
theorem q_lget (hu : X.A.units + 64 < cLine) (ho : QE X o td) (hi : QE X i ty) (hs : NoSl i := by intro _ _; rfl) : QE X (.Subscript o i pos) (qBin rdLGet td ty) := by
  refine pe_imp (pe_dget (by omega) ho hi hs) fun σ H R ⟨ρ, G, Q, r, h, k⟩ => ?_
  refine up_on r h fun x H1 d G1 s1 g1 i1 q1 => up_on (r.to s1 g1) q1 fun y H2 e G2 s2 g2 i2 q2 => ?_
  cases d with
  | ref a =>
    obtain ⟨kvs, e1, hk, v, e2, q⟩ := q2
    obtain ⟨ls, key, h1, rfl, rfl, pr⟩ := rdl_of g2 e1 hk i2
    have z := lent_at (k := key) pr
    rw [e2] at z
    obtain ⟨u, z1, z2⟩ := z
    exact ⟨a, u, i1, by rw [← z1]; exact DGet.k h1, k u H2 v G2 (s1.trans s2) g2 z2 q⟩
  | _ => exact q2.elim
/-- y in d -/
def rdLIn (neg : Bool → Bool) : R2d := fun y x G Q => match x with
  | .ref a => ∃ kvs, G a = some (.dct kvs) ∧ y.lkey = true ∧ Q (.bl (neg (dget kvs y).isSome)) G
  | _ => False
/-- d[y] = v -/
def putL (x y v : D) (G : Gp) (Q : Gp → Prop) : Prop := match x with
  | .ref a => ∃ kvs, G a = some (.dct kvs) ∧ y.lkey = true ∧ kvs.length < 1000 ∧ Q (gup G a (.dct (dput kvs y v)))
  | _ => False
def qLPut (td ty tv : TEd) : TSd := fun E ρ G => tv ρ G fun v G1 => td ρ G1 fun x G2 => ty ρ G2 fun y G3 => putL x y v G3 fun G4 => E.nx ρ G4
theorem putL_len {K : PySem.W.Frag} {H : Hp} {ls : List (Key × V)} {kvs : List (D × D)} (pr : Paired (LEnt K H) ls kvs) (h : kvs.length < 1000) : ls.length < sizeLine := by
  rw [Paired.length pr]; exact Nat.lt_trans h (by decide)
theorem qs_lput (hu : X.A.units + 64 < cLine) (ho : QE X o td) (hi : QE X i ty) (hv : QE X value tv) (hs : swapsWith value (some (.Subscript o i pos')) pos.line X.env = pure false := by rfl) :
    QS X (.Assign [.Subscript o i pos'] value pos) (qLPut td ty tv) := by
  refine ps_imp (ps_dput (by omega) ho hi hv hs) fun F σ H ⟨ρ, G, E, r, h, kk⟩ => ?_
  refine up_on r h fun vv H1 f G1 t1 g1 i1 q1 => up_on (r.to t1 g1) q1 fun x H2 d G2 t2 g2 i2 q2 => up_on ((r.to t1 g1).to t2 g2) q2 fun y H3 e G3 t3 g3 i3 q3 => ?_
  have b1 := (t1.trans t2).trans t3
  cases d with
  | ref a =>
    obtain ⟨kvs, e1, hk, hl, q⟩ := q3
    obtain ⟨ls, key, h1, rfl, rfl, pr⟩ := rdl_of g3 e1 hk i3
    have st : Stay H3 (upd H3 a (.dK (putK ls key vv))) := Stay.put h1 (fun _ z => nomatch z) (fun _ _ z => nomatch z)
    have g4 := g3.put (o := .dct (dput kvs (keyD key) f)) h1 (fun _ z => nomatch z) (fun _ _ z => nomatch z) ⟨putK ls key vv, upd_same, pair_mono (lent_put pr (i1.stay (t2.trans t3))) fun _ _ z => ⟨z.1, z.2.stay st⟩⟩
    exact ⟨a, _, i2, DPut.k h1 (putL_len pr hl), kk.nx σ _ ρ _ (b1.trans st) (r.to (b1.trans st) g4) q⟩
  | _ => exact q3.elim
/-! a display with written keys -/
def qPairs : List (D × TEd) → Sd → Gp → (List (D × D) → Gp → Prop) → Prop
  | [], _, G, Q => Q [] G
  | (d, t) :: r, ρ, G, Q => t ρ G fun y G1 => qPairs r ρ G1 fun ps G2 => Q ((d, y) :: ps) G2
/-- the display's pairs with their written keys -/
structure PPq (X : Cx) (pos : Pos) (keys : List (Option Expr)) (values : List Expr) (trs : List (D × TEd)) : Prop where
  ex : ∃ (ks : List Key) (ts : List (TE × TE)), PPs X pos keys values ts ∧ trs.map (·.1) = ks.map keyD ∧
    ∀ (σ : L2.St) (H : Hp) (ρ : Sd) (G : Gp) (Q : List (D × D) → Gp → Prop) (R : List (V × V) → Hp → Prop), Rel (qc X) ρ G σ H → qPairs trs ρ G Q →
      (∀ vs H1 ds G1, Stay H H1 → RG X.prog X.w X.K H1 G1 → IsDs X.K H1 (ds.map (·.2)) vs → ds.map (·.1) = ks.map keyD → vs.length = ks.length → Q ds G1 → R ((ks.map kV).zip vs) H1) → tPairs ts σ H R
theorem ppq_nil : PPq X pos [] [] [] := ⟨[], [], pps_nil, rfl, fun σ H ρ G Q R r h k => k [] H [] G (Stay.refl H) r.rg rfl rfl rfl h⟩
theorem ppq_cons {y : Str} {j p2} {v : Expr} {ks : List (Option Expr)} {vs : List Expr} {t : TEd} {trs : List (D × TEd)} (hv : QE X v t) (hr : PPq X pos ks vs trs) : PPq X pos (some (.Constant (.str y) j p2) :: ks) (v :: vs) ((.str y, t) :: trs) := by
  obtain ⟨kk, ts, h1, h2, h3⟩ := hr.ex
  refine ⟨.inr y :: kk, _, pps_cons pe_str hv h1, by simp [h2, keyD], fun σ H ρ G Q R r h k => ?_⟩
  show up (qc X) t σ H _
  refine up_on r h fun v H1 d G1 s1 g1 i1 q1 => ?_
  refine h3 σ H1 ρ G1 _ _ (r.to s1 g1) q1 fun vs H2 ds G2 s2 g2 i2 e2 e3 q2 => ?_
  exact k (v :: vs) H2 ((.str y, d) :: ds) G2 (s1.trans s2) g2 ⟨v, vs, rfl, i1.stay s2, i2⟩ (by simp [e2, keyD]) (by simp [e3]) q2
def qDisp (trs : List (D × TEd)) : TEd := fun ρ G Q => ∀ p, G p = none → qPairs trs ρ (gup G p (.dct [])) fun kvs G1 => G1 p = some (.dct []) ∧ (kvs.map (·.1)).Nodup ∧ kvs.length ≤ 15 ∧ Q (.ref p) (gup G1 p (.dct kvs))
theorem mergeK_fresh : ∀ (more acc : List (Key × V)), ((acc ++ more).map (·.1)).Nodup → mergeK acc more = acc ++ more
  | [], acc, _ => by simp [mergeK]
  | p :: r, acc, h => by
    have n : valV acc p.1 = none := by
      cases e : valV acc p.1 with
      | none => rfl
      | some v =>
        exfalso
        rw [List.map_append, List.nodup_append] at h
        unfold valV at e
        obtain ⟨q, e1, _⟩ := Option.map_eq_some_iff.mp e
        have m := List.mem_of_find?_eq_some e1
        have z := List.find?_some e1
        exact h.2.2 p.1 (List.mem_map.mpr ⟨q, m, by simpa using z⟩) p.1 (by simp) rfl
    show mergeK (putK acc p.1 p.2) r = _
    rw [putK_new _ n, mergeK_fresh r (acc ++ [(p.1, p.2)]) (by simpa using h)]
    simp
theorem q_disp {keys : List (Option Expr)} {values : List Expr} {trs : List (D × TEd)} (h : PPq X pos keys values trs) (hall : keys.all (·.isSome) = true := by rfl) (hl : keys.length = values.length := by rfl) (h0 : keys ≠ [] := by exact List.cons_ne_nil _ _)
    (h15 : keys.length ≤ 15 := by decide) : QE X (.Dict keys values pos) (qDisp trs) := by
  obtain ⟨ks, ts, h1, h2, h3⟩ := h.ex
  refine pe_imp (pe_disp h1 hall hl h0 h15) fun σ H R ⟨ρ, G, Q, r, q, k⟩ p hp => ?_
  have sp := Stay.new (o := .dK []) hp
  have r1 : Rel (qc X) ρ (gup G p (.dct [])) σ (upd H p (.dK [])) := r.to sp (r.rg.add (o := .dct []) hp ⟨[], upd_same, .nil⟩)
  refine h3 σ _ ρ _ _ _ r1 (q p (r.rg.fresh hp)) fun vs H1 ds G1 s1 g1 i1 e1 e2 ⟨q1, q2, q3, q4⟩ => ?_
  obtain ⟨ls, hls, pr⟩ := g1 p _ q1
  cases pr
  have hlen : ks.length = ds.length := by have := congrArg List.length e1; simpa using this.symm
  have pairs : ∀ {ks : List Key} {vs : List V} {ds : List (D × D)} {H : Hp}, IsDs X.K H (ds.map (·.2)) vs → ds.map (·.1) = ks.map keyD → Paired (LEnt X.K H) (ks.zip vs) ds := by
    intro ks vs ds H
    induction ds generalizing ks vs with
    | nil => intro a b; cases ks with
      | nil => exact .nil
      | cons => simp at b
    | cons d ds ih =>
      intro a b
      obtain ⟨v, t, rfl, a1, a2⟩ := a
      cases ks with
      | nil => simp at b
      | cons k ks =>
        simp only [List.map_cons, List.cons.injEq] at b
        exact .cons ⟨b.1, a1⟩ (ih a2 b.2)
  have hz : (ks.zip vs).length = ks.length := by rw [List.length_zip, e2, Nat.min_self]
  have hm : (ks.zip vs).map (·.1) = ks := by rw [List.map_fst_zip (by omega)]
  have nd : ks.Nodup := by
    rw [e1] at q2
    exact List.Pairwise.of_map keyD (fun a b h e => h (congrArg keyD e)) q2
  refine ⟨hls, ks.zip vs, ?_, by rw [hz, hlen]; exact q3, ?_⟩
  · clear h3 h2 i1 e1 hlen pairs hz hm nd q1 q2 q3 q4
    induction ks generalizing vs with
    | nil => rfl
    | cons a b ih => cases vs with
      | nil => rfl
      | cons c d => simp only [List.map_cons, List.zip_cons_cons]; rw [ih]; simpa using e2
  · rw [mergeK_fresh _ [] (by rw [List.nil_append, hm]; exact nd), List.nil_append]
    have st : Stay H1 (upd H1 p (.dK (ks.zip vs))) := Stay.put hls (fun _ z => nomatch z) (fun _ _ z => nomatch z)
    refine k (.ref p) _ (.ref p) (gup G1 p (.dct ds)) ((sp.trans s1).trans st) (g1.put (o := .dct ds) hls (fun _ z => nomatch z) (fun _ _ z => nomatch z) ⟨_, upd_same, pair_mono (pairs i1 e1) fun _ _ z => ⟨z.1, z.2.stay st⟩⟩) rfl q4
end

/-! ### d.get(k, x) with a tuple as key -/
section
variable {X : Cx} {o e f : Expr} {apos cpos : Pos} {td ty tx : TEd}
def qTGet2 (td ty tx : TEd) : TEd := fun ρ G Q => td ρ G fun x G1 => match x with
  | .ref a => (∃ kvs, G1 a = some (.tct kvs)) ∧ ty ρ G1 fun y G2 => tx ρ G2 fun z G3 => ∃ kvs, G3 a = some (.tct kvs) ∧ y.tkey = true ∧ Q ((dget kvs y).getD z) G3
  | _ => False
theorem q_tget2 (hu : X.A.units + 64 < cLine) (ho : QE X o td) (he : QE X e ty) (hf : QE X f tx) (m : M2 X o "get" apos e f cpos := by exact ⟨rfl, rfl, rfl, rfl⟩) : QE X (.Call (.Attribute o "get" apos) [e, f] [] cpos) (qTGet2 td ty tx) := by
  refine ⟨fun pins s σ H Q I h => ?_⟩
  obtain ⟨ρ, G, Qd, r, h, kk⟩ := h
  refine wpAny_Call_method m.base m.few m.line PySem.F.plainAttrs_dict PySem.F.slot_dict_get PySem.F.type_dict_get (thn (ho.run pins s σ H _ I (up_on (R := fun x H1 => ∃ a G1, x = .ref a ∧ Stay H H1 ∧ RG X.prog X.w X.K H1 G1 ∧ (∃ kvs, G1 a = some (.tct kvs)) ∧
      ty ρ G1 fun y G2 => tx ρ G2 fun z G3 => ∃ kvs, G3 a = some (.tct kvs) ∧ y.tkey = true ∧ Qd ((dget kvs y).getD z) G3) r h fun x H1 d G1 s1 g1 i1 q1 => by
        cases d with
        | ref a => exact ⟨a, G1, i1, s1, g1, q1.1, q1.2⟩
        | _ => exact q1.elim)) fun u s1 ⟨x, H1, I1, rx, a, G1, ex, t1, g1, ⟨kvs0, e0⟩, q1⟩ => ?_)
  subst ex
  obtain rfl : u = Value.ref a := rx
  obtain ⟨xs0, dd0, _, hd0, _, _⟩ := tup_raw I1 (g1 a _ e0)
  refine ⟨dd0.typeIs, (fun b q => by cases q; obtain ⟨ob, _, _, h1, h2, _⟩ := dd0; exact ⟨ob, h1, h2.2.1⟩), ?_⟩
  rw [m.trees]
  refine Calls.callWith_builtin rfl (Calls.evalArgs_plain (Calls.spliced_cons (thn (he.run pins s1 σ H1 _ I1 (up_on (R := fun y H2 => ∃ dy G2, Stay H1 H2 ∧ RG X.prog X.w X.K H2 G2 ∧ IsD X.K H2 dy y ∧ tx ρ G2 fun z G3 => ∃ kvs, G3 a = some (.tct kvs) ∧ dy.tkey = true ∧ Qd ((dget kvs dy).getD z) G3) (r.to t1 g1) q1
      fun x H1 d G1 s1 g1 i1 q1 => ⟨d, G1, s1, g1, i1, q1⟩)) fun iv s2 ⟨y, H2, I2, ry, dy, G2, t2, g2, i2, q2⟩ =>
    Calls.spliced_cons (thn (hf.run pins s2 σ H2 _ I2 (up_on (R := fun z H3 => ∃ dz G3, Stay H2 H3 ∧ RG X.prog X.w X.K H3 G3 ∧ IsD X.K H3 dz z ∧ ∃ kvs, G3 a = some (.tct kvs) ∧ dy.tkey = true ∧ Qd ((dget kvs dy).getD dz) G3) ((r.to t1 g1).to t2 g2) q2
      fun x H1 d G1 s1 g1 i1 q1 => ⟨d, G1, s1, g1, i1, q1⟩)) fun fv s3 ⟨z, H3, I3, rz, dz, G3, t3, g3, i3, kvs, e3, hk, q3⟩ => Calls.spliced_nil ?_))))
  obtain ⟨xs, dd, pr, hd, mu, hz⟩ := tup_raw I3 (g3 a _ e3)
  obtain ⟨b, rfl⟩ := tkey_ref i2 hk
  obtain rfl : iv = Value.ref b := ry
  refine call_meetsIn PySem.F.slot_dict_get dd.typeIs PySem.F.entry_dict_get (PySem.F.args_dict_get_3 _ _ _) (meetsH_dict_get_default (nestedKind X.prog X.w) a b hd fv) ⟨show (X.A.units + 1) + 8 < cLine by omega, dy.nk, xs, kind_of I3 (i2.stay t3) hk, dd, ?_⟩
  have w := ent_at hk pr
  cases ed : dget kvs dy with
  | none =>
    rw [ed] at w q3
    rw [w]
    exact ⟨z, H3, I3.tok _, rz, kk z H3 dz G3 ((t1.trans t2).trans t3) g3 i3 q3⟩
  | some d =>
    rw [ed] at w q3
    obtain ⟨b', u', v', w1, w2, w3⟩ := w
    rw [w1]
    exact ⟨v', H3, I3.tok _, w2, kk v' H3 d G3 ((t1.trans t2).trans t3) g3 w3 q3⟩
end

/-! ### methods of lists -/
abbrev RMd := D → List D → Gp → KD → Prop
def isLst (x : D) (G : Gp) : Prop := match x with
  | .ref a => ∃ ds, G a = some (.lst ds)
  | _ => False
structure MetQ (X : Cx) (id : String) (r' : RMd) : Prop where
  ex : ∃ r, MtR X id r ∧ ∀ (H : Hp) (G : Gp) (x : V) (d : D) (xs : List V) (ds : List D) (Q : KD) (R : VK), RG X.prog X.w X.K H G → IsD X.K H d x → IsDs X.K H ds xs → r' d ds G Q →
    (∀ v H1 d1 G1, Stay H H1 → RG X.prog X.w X.K H1 G1 → IsD X.K H1 d1 v → Q d1 G1 → R v H1) → r x xs H R
def qMet (r : RMd) (to : TEd) (t : TAd) : TEd := fun ρ G Q => to ρ G fun x G1 => isLst x G1 ∧ t ρ G1 fun ds G2 => r x ds G2 Q
section
variable {X : Cx} {o e : Expr} {es : List Expr} {to : TEd} {t : TAd} {name : Str} {apos cpos : Pos} {id : String} {r' : RMd}
theorem isLst_ty {G : Gp} {H : Hp} {x : D} {v : V} (h : isLst x G) (hg : RG X.prog X.w X.K H G) (i : IsD X.K H x v) : tyV X.K "list" v H := by
  cases x with
  | ref a =>
    obtain ⟨ds, e⟩ := h
    obtain ⟨xs, q, _⟩ := hg a _ e
    rw [show v = V.ref a from i]
    exact .inl ⟨rfl, xs, .inl (.inl q)⟩
  | _ => exact h.elim
theorem q_bm (slot : Slot "list" name id) (hty : typeOf (.builtin id) = pure (.type "method_descriptor")) (hm : MetQ X id r') (ho : QE X o to) (ha : QA X (e :: es) t)
    (hbase : attributeBase o name X.env (eval o X.env) = eval o X.env := by rfl)
    (hfew : ((backTo cpos (starEach (e :: es) X.env)).all (fun x => !x.1) && (backToKw cpos (keywordEach [] X.env)).all (fun x => x.1.isSome)
      && decide ((e :: es).length + ([] : List Keyword).length + (if ([] : List Keyword).isEmpty then 0 else 1) < 30)) = true := by rfl)
    (hline : (apos.endLine == cpos.line) = true := by rfl) (hs : starEach (e :: es) X.env = (false, eval e X.env) :: starEach es X.env := by rfl) (hplain : (backTo cpos (starEach es X.env)).any (·.1) = false := by rfl) :
    QE X (.Call (.Attribute o name apos) (e :: es) [] cpos) (qMet r' to t) := by
  obtain ⟨r, h1, h2⟩ := hm.ex
  refine pe_imp (pe_bm PySem.F.plainAttrs_list slot hty h1 ho ha hbase hfew hline hs hplain) fun σ H R ⟨ρ, G, Q, rl, h, k⟩ => ?_
  refine up_on rl h fun x H1 d G1 s1 g1 i1 q1 => ⟨isLst_ty q1.1 g1 i1, ρ, G1, _, rl.to s1 g1, q1.2, fun vs H2 ds G2 s2 g2 i2 q2 => ?_⟩
  exact h2 H2 G2 x d vs ds Q R g2 (i1.stay s2) i2 q2 fun v H3 d3 G3 s3 g3 i3 q3 => k v H3 d3 G3 ((s1.trans s2).trans s3) g3 i3 q3
def qMet0 (r : RMd) (to : TEd) : TEd := fun ρ G Q => to ρ G fun x G1 => isLst x G1 ∧ r x [] G1 Q
theorem q_bm0 (slot : Slot "list" name id) (hty : typeOf (.builtin id) = pure (.type "method_descriptor")) (hm : MetQ X id r') (ho : QE X o to)
    (hbase : attributeBase o name X.env (eval o X.env) = eval o X.env := by rfl) (hline : (apos.endLine == cpos.line) = true := by rfl) : QE X (.Call (.Attribute o name apos) [] [] cpos) (qMet0 r' to) := by
  obtain ⟨r, h1, h2⟩ := hm.ex
  refine pe_imp (pe_bm0 PySem.F.plainAttrs_list slot hty h1 ho hbase hline) fun σ H R ⟨ρ, G, Q, rl, h, k⟩ => ?_
  refine up_on rl h fun x H1 d G1 s1 g1 i1 q1 => ⟨isLst_ty q1.1 g1 i1, ?_⟩
  exact h2 H1 G1 x d [] [] Q R g1 i1 rfl q1.2 fun v H3 d3 G3 s3 g3 i3 q3 => k v H3 d3 G3 (s1.trans s3) g3 i3 q3
/-- xs.append(y) -/
def rdApp : RMd := fun x ds G Q => match x, ds with
  | .ref a, [y] => ∃ es, G a = some (.lst es) ∧ es.length < sizeLine ∧ Q .non (gup G a (.lst (es ++ [y])))
  | _, _ => False
theorem mq_app : MetQ X "list.append" rdApp := ⟨_, mt_append, fun H G x d xs ds Q R hg ix iy h k => by
  unfold rdApp at h
  split at h
  · rename_i a y
    obtain ⟨es, e1, hl, q⟩ := h
    obtain ⟨us, e2, z⟩ := hg a _ e1
    obtain ⟨u, rfl, iu⟩ := iy.one
    have st : Stay H (upd H a (.lst (us ++ [u]))) := Stay.put e2 (fun _ z => nomatch z) (fun _ _ z => nomatch z)
    refine ⟨a, us, u, ix, rfl, e2, by rw [z.length]; exact hl, k .non _ .non _ st (hg.put (o := .lst (es ++ [y])) e2 (fun _ z => nomatch z) (fun _ _ z => nomatch z) ⟨_, upd_same, ?_⟩) rfl q⟩
    exact (z.stay st).append ⟨u, [], rfl, iu.stay st, rfl⟩
  · exact h.elim⟩
/-- xs.pop(i), i from the left -/
def rdPopAt : RMd := fun x ds G Q => match x, ds with
  | .ref a, [.int i] => ∃ es y, G a = some (.lst es) ∧ 0 ≤ i ∧ i < 1000000 ∧ es[i.toNat]? = some y ∧ Q y (gup G a (.lst (es.eraseIdx i.toNat)))
  | _, _ => False
theorem mq_popAt : MetQ X "list.pop" rdPopAt := ⟨_, mt_popAt, fun H G x d xs ds Q R hg ix iy h k => by
  unfold rdPopAt at h
  split at h
  · rename_i a i
    obtain ⟨es, y, e1, h0, h1, h2, q⟩ := h
    obtain ⟨us, e2, z⟩ := hg a _ e1
    obtain ⟨u, rfl, iu⟩ := iy.one
    obtain ⟨v, hv, iv⟩ := z.get h2
    have hlt : i.toNat < us.length := (List.getElem?_eq_some_iff.mp hv).1
    have st : Stay H (upd H a (.lst (us.eraseIdx i.toNat))) := Stay.put e2 (fun _ z => nomatch z) (fun _ _ z => nomatch z)
    refine ⟨a, us, i, i.toNat, v, ix, by rw [show u = V.int i from iu], e2, by omega, by omega, seqIndex_of h0 (by omega), hv, k v _ y _ st (hg.put (o := .lst (es.eraseIdx i.toNat)) e2 (fun _ z => nomatch z) (fun _ _ z => nomatch z) ⟨_, upd_same, (z.stay st).eraseIdx _⟩) (iv.stay st) q⟩
  · exact h.elim⟩
/-- xs.pop() -/
def rdPop : RMd := fun x ds G Q => match x, ds with
  | .ref a, [] => ∃ es y, G a = some (.lst es) ∧ es[es.length - 1]? = some y ∧ Q y (gup G a (.lst es.dropLast))
  | _, _ => False
theorem IsDs.dropLast {K : PySem.W.Frag} {H : Hp} {ds : List D} {vs : List V} (h : IsDs K H ds vs) : IsDs K H ds.dropLast vs.dropLast := by
  rw [List.dropLast_eq_take, List.dropLast_eq_take, h.length]; exact h.take _
theorem mq_pop : MetQ X "list.pop" rdPop := ⟨_, mt_pop, fun H G x d xs ds Q R hg ix iy h k => by
  unfold rdPop at h
  split at h
  · rename_i a
    obtain ⟨es, y, e1, h2, q⟩ := h
    obtain ⟨us, e2, z⟩ := hg a _ e1
    rw [show xs = [] from iy]
    obtain ⟨v, hv, iv⟩ := z.get h2
    have st : Stay H (upd H a (.lst us.dropLast)) := Stay.put e2 (fun _ z => nomatch z) (fun _ _ z => nomatch z)
    refine ⟨a, us, v, ix, rfl, e2, by rw [z.length]; exact hv, k v _ y _ st (hg.put (o := .lst es.dropLast) e2 (fun _ z => nomatch z) (fun _ _ z => nomatch z) ⟨_, upd_same, IsDs.dropLast (z.stay st)⟩) (iv.stay st) q⟩
  · exact h.elim⟩
end
end TL
end
section
set_option Elab.async false
set_option linter.all false
set_option maxRecDepth 100000
set_option maxHeartbeats 4000000
namespace TL
open PySem PySem.Spec PyProof.Rows L2

/-! ### fields of an instance -/
def fput (f : Str) (y : D) : List (Str × D) → List (Str × D)
  | [] => [(f, y)]
  | q :: r => if q.1 = f then (f, y) :: r else q :: fput f y r
def fget : List (Str × D) → Str → Option D
  | [], _ => none
  | q :: r, f => if q.1 = f then some q.2 else fget r f
section
variable {K : PySem.W.Frag} {H : Hp}
/-- the fields' values -/
abbrev FEnt (K : PySem.W.Frag) (H : Hp) : List (Str × V) → List (Str × D) → Prop := fun gs fs => gs.map (·.1) = fs.map (·.1) ∧ IsDs K H (fs.map (·.2)) (gs.map (·.2))
theorem fent_get : ∀ {gs : List (Str × V)} {fs : List (Str × D)} {f : Str} {d : D}, FEnt K H gs fs → fget fs f = some d → ∃ v, gs.lookup f = some v ∧ IsD K H d v
  | [], fs, f, d, h, e => by
    have : fs = [] := by cases fs with
      | nil => rfl
      | cons q r => exact nomatch h.1
    subst this; simp [fget] at e
  | g :: gs, [], f, d, h, e => nomatch h.1
  | (x, v) :: gs, (y, z) :: fs, f, d, h, e => by
    obtain ⟨h1, w, t, e1, h2, h3⟩ := h
    simp only [List.map_cons, List.cons.injEq] at h1 e1
    obtain ⟨rfl, h1⟩ := h1
    obtain ⟨rfl, rfl⟩ := e1
    unfold fget at e
    rw [List.lookup_cons]
    by_cases q : x = f
    · subst q
      simp at e
      subst e
      exact ⟨v, by simp, h2⟩
    · rw [if_neg q] at e
      have : (f == x) = false := beq_eq_false_iff_ne.mpr (fun z => q z.symm)
      rw [this]
      exact fent_get ⟨h1, h3⟩ e
theorem fent_none : ∀ {gs : List (Str × V)} {fs : List (Str × D)} {f : Str}, gs.map (·.1) = fs.map (·.1) → fget fs f = none → gs.lookup f = none
  | [], fs, f, h, e => rfl
  | g :: gs, [], f, h, e => by simp at h
  | (x, v) :: gs, (y, z) :: fs, f, h, e => by
    simp only [List.map_cons, List.cons.injEq] at h
    obtain ⟨rfl, h⟩ := h
    unfold fget at e
    rw [List.lookup_cons]
    by_cases q : x = f
    · subst q; simp at e
    · rw [if_neg q] at e
      have : (f == x) = false := beq_eq_false_iff_ne.mpr (fun z => q z.symm)
      rw [this]
      exact fent_none h e
theorem fent_put {f : Str} {d : D} {v : V} (i : IsD K H d v) : ∀ {gs : List (Str × V)} {fs : List (Str × D)}, FEnt K H gs fs → FEnt K H (putF f v gs) (fput f d fs)
  | [], fs, h => by
    have : fs = [] := by cases fs with
      | nil => rfl
      | cons q r => exact nomatch h.1
    subst this; exact ⟨rfl, v, [], rfl, i, rfl⟩
  | g :: gs, [], h => nomatch h.1
  | (x, v0) :: gs, (y, z) :: fs, h => by
    obtain ⟨h1, w, t, e1, h2, h3⟩ := h
    simp only [List.map_cons, List.cons.injEq] at h1 e1
    obtain ⟨rfl, h1⟩ := h1
    obtain ⟨rfl, rfl⟩ := e1
    unfold putF fput
    by_cases q : x = f
    · rw [if_pos q, if_pos q]
      exact ⟨by simp [h1, q], v, _, rfl, i, h3⟩
    · rw [if_neg q, if_neg q]
      obtain ⟨a1, a2⟩ := fent_put i (gs := gs) (fs := fs) ⟨h1, h3⟩
      exact ⟨by simp [a1], v0, _, rfl, h2, a2⟩
end
section
variable {X : Cx} {o e value : Expr} {f : Str} {pos pos' tpos : Pos} {ta tv : TEd} {C : Addr}
def qFld (C : Addr) (f : Str) (ta : TEd) : TEd := fun ρ G Q => ta ρ G fun x G1 => match x with
  | .ref a => ∃ fs, G1 a = some (.ins C fs) ∧ ∃ v, fget fs f = some v ∧ Q v G1
  | _ => False
theorem q_fld (c : Cls X.K C) (n : NoAttr X.K C f) (he : QE X e ta) (hb : attributeBase e f X.env (eval e X.env) = eval e X.env := by rfl) : QE X (.Attribute e f pos) (qFld C f ta) := by
  refine pe_imp (pe_fld he hb) fun σ H R ⟨ρ, G, Q, r, h, k⟩ => up_on r h fun x H1 d G1 s1 g1 i1 q1 => ?_
  cases d with
  | ref a =>
    obtain ⟨fs, e1, v, e2, q⟩ := q1
    obtain ⟨dx, gs, e3, pr⟩ := g1 a _ e1
    obtain ⟨u, e4, i4⟩ := fent_get pr e2
    exact ⟨a, C, dx, gs, u, i1, e3, c, n, e4, k u H1 v G1 s1 g1 i4 q⟩
  | _ => exact q1.elim
/-- the field is written -/
def putFld (C : Addr) (f : Str) (x v : D) (G : Gp) (Q : Gp → Prop) : Prop := match x with
  | .ref a => ∃ fs, G a = some (.ins C fs) ∧ fs.length < 1000 ∧ Q (gup G a (.ins C (fput f v fs)))
  | _ => False
theorem putFld_lift {G : Gp} {H : Hp} {d e : D} {x v : V} {Q : Gp → Prop} {R : Hp → Prop} (g : RG X.prog X.w X.K H G) (i1 : IsD X.K H d x) (i2 : IsD X.K H e v) (h : putFld C f d e G Q)
    (k : ∀ H1 G1, Stay H H1 → RG X.prog X.w X.K H1 G1 → Q G1 → R H1) : ∃ a dx gs, x = .ref a ∧ H a = some (.ins C dx gs) ∧ gs.length < 1000 ∧ R (upd H a (.ins C dx (putF f v gs))) := by
  cases d with
  | ref a =>
    obtain ⟨fs, e1, hl, q⟩ := h
    obtain ⟨dx, gs, e3, pr⟩ := g a _ e1
    have st : Stay H (upd H a (.ins C dx (putF f v gs))) := Stay.put e3 (fun _ z => nomatch z) (fun _ _ z => nomatch z)
    have hlen : gs.length = fs.length := by have := congrArg List.length pr.1; simpa using this
    obtain ⟨p1, p2⟩ := fent_put (f := f) i2 pr
    exact ⟨a, dx, gs, i1, e3, by rw [hlen]; exact hl, k _ _ st (g.put (o := .ins C (fput f e fs)) e3 (fun _ z => nomatch z) (fun _ _ z => nomatch z) ⟨dx, _, upd_same, p1, p2.stay st⟩) q⟩
  | _ => exact h.elim
def qFldPut (C : Addr) (f : Str) (ta tv : TEd) : TSd := fun E ρ G => tv ρ G fun v G1 => ta ρ G1 fun x G2 => putFld C f x v G2 fun G3 => E.nx ρ G3
theorem qs_fld (c : Cls X.K C) (n : NoAttr X.K C f) (ha : QE X o ta) (hv : QE X value tv) (hs : swapsWith value (some (.Attribute o f pos')) pos.line X.env = pure false := by rfl) : QS X (.Assign [.Attribute o f pos'] value pos) (qFldPut C f ta tv) := by
  refine ps_imp (ps_fld ha hv hs) fun F σ H ⟨ρ, G, E, r, h, kk⟩ => ?_
  refine up_on r h fun vv H1 d G1 t1 g1 i1 q1 => up_on (r.to t1 g1) q1 fun x H2 e G2 t2 g2 i2 q2 => ?_
  obtain ⟨a, dx, gs, e1, e2, hl, q⟩ := putFld_lift (R := fun H3 => F.nx σ H3) g2 i2 (i1.stay t2) q2 fun H3 G3 t3 g3 q3 => kk.nx σ H3 ρ G3 ((t1.trans t2).trans t3) (r.to ((t1.trans t2).trans t3) g3) q3
  exact ⟨a, C, dx, gs, e1, e2, c, n, hl, q⟩
/-- o.f as a target among others -/
def gFldT (K : PySem.W.Frag) (C : Addr) (f : Str) (ta : TE) : TG := fun v σ H R => ta σ H fun x H1 => ∃ a dx gs, x = .ref a ∧ H1 a = some (.ins C dx gs) ∧ gs.length < 1000 ∧ R σ (upd H1 a (.ins C dx (putF f v gs)))
theorem pg_fldT {te : TE} (c : Cls X.K C) (n : NoAttr X.K C f) (ho : PE X o te) : PG X (.Attribute o f pos) (gFldT X.K C f te) := by
  refine ⟨fun pins s σ H v u Q I r h => ?_⟩
  rw [assign_Attribute]
  refine wpAny_bind (wpAny_holding (thn (ho.run pins s σ H _ I h) fun ov s1 ⟨x, H1, I1, r1, a, dx, gs, ex, ea, hl, q1⟩ => ?_))
  subst ex
  obtain rfl : ov = Value.ref a := r1
  refine wpAny_bind (wpAny_standAt (wpAny_bind (wpAny_holding (setattr_ok I1 ea c n hl r fun s2 I2 => ?_))))
  exact wpAny_release ⟨σ, _, I2, q1⟩
def qgFld (C : Addr) (f : Str) (ta : TEd) : TGd := fun v ρ G Q => ta ρ G fun x G1 => putFld C f x v G1 fun G2 => Q ρ G2
theorem qg_fld (c : Cls X.K C) (n : NoAttr X.K C f) (ho : QE X o ta) : QG X (.Attribute o f pos) (qgFld C f ta) := by
  refine pg_imp (pg_fldT c n ho) fun v σ H R ⟨d, ρ, G, Q, r, iv, h, k⟩ => ?_
  refine up_on r h fun x H1 e G1 t1 g1 i1 q1 => ?_
  exact putFld_lift (R := fun H2 => R σ H2) g1 i1 (iv.stay t1) q1 fun H3 G3 t3 g3 q3 => k σ H3 ρ G3 (t1.trans t3) (r.to (t1.trans t3) g3) q3
end

/-! ### defs -/
/-- a def's promise over data -/
abbrev Spd := List D → Gp → KD → Prop
def spT (X : Cq) (sp : Spd) : Sp := fun vs H R _ => ∃ ds G Q, IsDs X.K H ds vs ∧ RG X.prog X.w X.K H G ∧ sp ds G Q ∧ ∀ v H1 d G1, Stay H H1 → RG X.prog X.w X.K H1 G1 → IsD X.K H1 d v → Q d G1 → R v H1
/-- what a call needs of a def -/
structure FnQ (P : Program) (w : World) (K : PySem.W.Frag) (mg : Str → Option Value) (base : Heap) (k : Nat) (f : Addr) (sp : Spd) : Prop where
  ex : ∃ (fd : FuncData) (ps : List Str), PySem.W.keepIn K (.ref f) = true ∧ Binds K fd ps [] ∧ FnOk P w K mg base CX0 k f fd ps (spT ⟨P, w, K⟩ sp)
structure DefQ (P : Program) (w : World) (K : PySem.W.Frag) (mg : Str → Option Value) (base : Heap) (k : Nat) (x : Str) (sp : Spd) : Prop where
  ex : ∃ f, mg x = some (.ref f) ∧ FnQ P w K mg base k f sp
structure MethQ (P : Program) (w : World) (K : PySem.W.Frag) (mg : Str → Option Value) (base : Heap) (k : Nat) (C : Addr) (m : Str) (sp : Spd) : Prop where
  ex : ∃ f, Meth K C m f ∧ FnQ P w K mg base k f sp
structure MakeQ (P : Program) (w : World) (K : PySem.W.Frag) (mg : Str → Option Value) (base : Heap) (k : Nat) (C : Addr) (x : Str) (sp : Spd) : Prop where
  ex : ∃ f, mg x = some (.ref C) ∧ Mk K C f ∧ FnQ P w K mg base k f sp
section
variable {X : Cx} {k j : Nat} {f C : Addr} {fd : FuncData} {sp : Spd} {x m : Str} {p pos apos : Pos} {e o : Expr} {es : List Expr} {ta : TEd} {t : TAd}
def qCall (sp : Spd) (t : TAd) : TEd := fun ρ G Q => t ρ G fun ds G1 => sp ds G1 Q
theorem q_call (F : DefQ X.prog X.w X.K X.mg X.base j x sp) (hr : Room k X.A) (ha : QA X (e :: es) t) (hj : j ≤ k := by decide) (hg : Gl X x := by rfl)
    (hdb : (x == ("__debug__" : Str)) = false := by decide) (he : starEach (e :: es) X.env = (false, eval e X.env) :: starEach es X.env := by rfl) (hpl : (backTo pos (starEach es X.env)).any (·.1) = false := by rfl) :
    QE X (.Call (.Name x p) (e :: es) [] pos) (qCall sp t) := by
  obtain ⟨f, hm, fd, ps, hk, hb, F⟩ := F.ex
  refine pe_imp (pe_call (E := E0) F (hr.mono hj) hg hm hk hb .nil pass0 ha hdb he hpl) fun σ H R ⟨ρ, G, Q, r, h, k⟩ => ?_
  refine ⟨ρ, G, _, r, h, fun vs H1 ds G1 s1 g1 i1 q1 => ?_⟩
  show spT _ sp (vs ++ []) H1 R E0
  rw [List.append_nil]
  exact ⟨ds, G1, Q, i1, g1, q1, fun v H2 d G2 s2 g2 i2 q2 => k v H2 d G2 (s1.trans s2) g2 i2 q2⟩
def isIns (C : Addr) (m : Str) (x : D) (G : Gp) : Prop := match x with
  | .ref a => ∃ fs, G a = some (.ins C fs) ∧ fget fs m = none
  | _ => False
def qMeth (C : Addr) (m : Str) (sp : Spd) (to : TEd) (t : TAd) : TEd := fun ρ G Q => to ρ G fun x G1 => isIns C m x G1 ∧ t ρ G1 fun ds G2 => sp (x :: ds) G2 Q
theorem q_meth {pl : Sem Bool} (c : Cls X.K C) (F : MethQ X.prog X.w X.K X.mg X.base j C m sp) (hr : Room k X.A) (he : QE X o ta) (ha : QA X (e :: es) t) (hj : j ≤ k := by decide)
    (hst : starEach (e :: es) X.env = (false, eval e X.env) :: starEach es X.env := by rfl) (hpl : (backTo pos (starEach es X.env)).any (·.1) = false := by rfl)
    (ht : eval (.Call (.Attribute o m apos) (e :: es) [] pos) X.env = (do
      let ov ← eval o X.env
      standAt apos.atName
      let (f, first) ← holding [ov] (getMethod ov m pl)
      callWith pos f first (backTo pos (starEach (e :: es) X.env)) (backToKw pos (keywordEach [] X.env))) := by rfl) :
    QE X (.Call (.Attribute o m apos) (e :: es) [] pos) (qMeth C m sp ta t) := by
  obtain ⟨f, hm, fd, ps, hk, hb, F⟩ := F.ex
  refine pe_imp (pe_meth (E := E0) (pl := pl) he c hm F (hr.mono hj) hb .nil pass0 ha hst hpl ht) fun σ H R ⟨ρ, G, Q, r, h, k⟩ => ?_
  refine up_on r h fun x H1 d G1 s1 g1 i1 q1 => ?_
  obtain ⟨q0, q1⟩ := q1
  cases d with
  | ref a =>
    obtain ⟨fs, e1, e2⟩ := q0
    obtain ⟨dx, gs, e3, pr⟩ := g1 a _ e1
    refine ⟨a, dx, gs, i1, e3, fent_none pr.1 e2, ρ, G1, _, r.to s1 g1, q1, fun vs H2 ds G2 s2 g2 i2 q2 => ?_⟩
    show spT _ sp (x :: (vs ++ [])) H2 R E0
    rw [List.append_nil]
    exact ⟨.ref a :: ds, G2, Q, ⟨x, vs, rfl, i1.stay s2, i2⟩, g2, q2, fun v H3 d G3 s3 g3 i3 q3 => k v H3 d G3 ((s1.trans s2).trans s3) g3 i3 q3⟩
  | _ => exact q0.elim
theorem q_meth0 {pl : Sem Bool} (c : Cls X.K C) (F : MethQ X.prog X.w X.K X.mg X.base j C m sp) (hr : Room k X.A) (he : QE X o ta) (hj : j ≤ k := by decide)
    (ht : eval (.Call (.Attribute o m apos) [] [] pos) X.env = (do
      let ov ← eval o X.env
      standAt apos.atName
      let (f, first) ← holding [ov] (getMethod ov m pl)
      callWith pos f first (backTo pos (starEach [] X.env)) (backToKw pos (keywordEach [] X.env))) := by rfl) :
    QE X (.Call (.Attribute o m apos) [] [] pos) (qMeth C m sp ta fun _ G Q => Q [] G) := by
  obtain ⟨f, hm, fd, ps, hk, hb, F⟩ := F.ex
  refine pe_imp (pe_meth0 (E := E0) (pl := pl) he c hm F (hr.mono hj) hb .nil pass0 ht) fun σ H R ⟨ρ, G, Q, r, h, k⟩ => ?_
  refine up_on r h fun x H1 d G1 s1 g1 i1 q1 => ?_
  obtain ⟨q0, q1⟩ := q1
  cases d with
  | ref a =>
    obtain ⟨fs, e1, e2⟩ := q0
    obtain ⟨dx, gs, e3, pr⟩ := g1 a _ e1
    refine ⟨a, dx, gs, i1, e3, fent_none pr.1 e2, ?_⟩
    exact ⟨[.ref a], G1, Q, ⟨x, [], rfl, i1, rfl⟩, g1, q1, fun v H3 d G3 s3 g3 i3 q3 => k v H3 d G3 (s1.trans s3) g3 i3 q3⟩
  | _ => exact q0.elim
def qMake (C : Addr) (sp : Spd) (t : TAd) : TEd := fun ρ G Q => t ρ G fun ds G1 => ∀ p, G1 p = none → sp (.ref p :: ds) (gup G1 p (.ins C [])) fun v G2 => v = .non ∧ Q (.ref p) G2
theorem q_make (F : MakeQ X.prog X.w X.K X.mg X.base j C x sp) (hr : Room k X.A) (ha : QA X (e :: es) t) (hj : j + 1 ≤ k := by decide) (hg : Gl X x := by rfl)
    (hdb : (x == ("__debug__" : Str)) = false := by decide) (he : starEach (e :: es) X.env = (false, eval e X.env) :: starEach es X.env := by rfl) (hpl : (backTo pos (starEach es X.env)).any (·.1) = false := by rfl) :
    QE X (.Call (.Name x p) (e :: es) [] pos) (qMake C sp t) := by
  obtain ⟨f, hm, M, fd, ps, hk, hb, F⟩ := F.ex
  refine pe_imp (pe_make (E := E0) M F (hr.mono hj) hg hm hb .nil pass0 ha hdb he hpl) fun σ H R ⟨ρ, G, Q, r, h, k⟩ => ?_
  refine ⟨ρ, G, _, r, h, fun vs H1 ds G1 s1 g1 i1 q1 => ?_⟩
  intro p dx hp hdx hne
  rw [List.append_nil]
  have st1 := Stay.new (o := .own p) hdx
  have hp' : upd H1 dx (.own p) p = none := by rw [upd_ne (Ne.symm hne)]; exact hp
  have st2 := Stay.new (o := .ins C dx []) hp'
  refine ⟨.ref p :: ds, gup G1 p (.ins C []), _, ⟨.ref p, vs, rfl, rfl, (i1.stay st1).stay st2⟩, (g1.new hdx).add (o := .ins C []) hp' ⟨dx, [], upd_same, rfl, rfl⟩, q1 p (g1.fresh hp), fun v H2 d G2 s2 g2 i2 ⟨q2, q3⟩ => ?_⟩
  subst q2
  exact ⟨i2, k (.ref p) H2 (.ref p) G2 (((s1.trans st1).trans st2).trans s2) g2 rfl q3⟩
end

/-! ### a def's body -/
def startD (N : Nat) (ds : List D) : Sd := ds.map some ++ List.replicate (N - ds.length) none
def endsD (Q : KD) : EndsD := ⟨fun _ G => Q .non G, Q, fun _ _ => False, fun _ _ => False⟩
def spB (N n : Nat) (rd : TSd) : Spd := fun ds G Q => ds.length = n ∧ rd (endsD Q) (startD N ds) G
theorem start_rv {K : PySem.W.Frag} {H : Hp} {N : List Str} : ∀ {ds : List D} {vs : List V}, IsDs K H ds vs → RV K H (startD N.length ds) (L2.start N vs) := by
  have rep : ∀ n, RV K H (List.replicate n none) (List.replicate n none) := by
    intro n
    induction n with
    | zero => rfl
    | succ n ih => exact ⟨none, _, rfl, (fun d z => by cases z), ih⟩
  have gen : ∀ (m : Nat) {ds : List D} {vs : List V}, IsDs K H ds vs → RV K H (ds.map some ++ List.replicate m none) (vs.map some ++ List.replicate m none) := by
    intro m ds
    induction ds with
    | nil => intro vs h; rw [show vs = [] from h]; exact rep m
    | cons d ds ih =>
      intro vs h
      obtain ⟨v, t, rfl, h1, h2⟩ := h
      exact ⟨some v, _, rfl, fun d' z => ⟨v, rfl, by cases z; exact h1⟩, ih h2⟩
  intro ds vs h
  unfold startD L2.start
  rw [h.length]
  exact gen _ h
/-- the body of a def, as a reading -/
def BodyQ (P : Program) (w : World) (K : PySem.W.Frag) (mg : Str → Option Value) (base : Heap) (k : Nat) (f : Addr) (qual : Str) (st : Stmt) (N : List Str) (rd : TSd) : Prop :=
  ∀ (cdv : Value) (A : Around) (outer : List Env) (s : Shared) (H : Hp) (E : XK), Room k (A.deeper (envOfC qual (defScope st) s.heap.objs.size f cdv)) →
    QSs (cxOf CX0 P w K mg base N qual (defScope st) f cdv A outer s H E).nox (defBody st) rd
theorem fnQ {P : Program} {w : World} {K : PySem.W.Frag} {mg : Str → Option Value} {base : Heap} {x qual : Str} {st : Stmt} {f : Addr} {fd : FuncData} {N ps : List Str} {k : Nat} {rd : TSd} (F : Fun K x qual st f fd) (S : FnScope N ps (defScope st))
    (hb : Binds K fd ps []) (h : BodyQ P w K mg base k f qual st N rd) : FnQ P w K mg base (k + 1) f (spB N.length ps.length rd) := by
  refine ⟨fd, ps, F.kp, hb, F.ok S (fun vs H Q E z => ?_) (fun cdv A outer s H vs Q E hr z => ?_)⟩
  · obtain ⟨ds, G, Q', i, g, q, _⟩ := z
    rw [i.length]; exact q.1
  · obtain ⟨ds, G, Q', i, g, ⟨q0, q⟩, kk⟩ := z
    refine ⟨_, h cdv A outer s H E hr, startD N.length ds, G, endsD Q', ⟨start_rv i, g⟩, q, ?_⟩
    exact ⟨fun σ H1 ρ G1 s1 r1 q1 => kk .non H1 .non G1 s1 r1.rg rfl q1, fun v H1 d G1 s1 g1 i1 q1 => kk v H1 d G1 s1 g1 i1 q1, fun _ _ _ _ _ _ q => q.elim, fun _ _ _ _ _ _ q => q.elim⟩
/-- a weaker promise -/
theorem FnQ.imp {P : Program} {w : World} {K : PySem.W.Frag} {mg : Str → Option Value} {base : Heap} {k : Nat} {f : Addr} {sp sp' : Spd} (F : FnQ P w K mg base k f sp) (h : ∀ ds G Q, sp' ds G Q → sp ds G Q) : FnQ P w K mg base k f sp' := by
  obtain ⟨fd, ps, hk, hb, F⟩ := F.ex
  exact ⟨fd, ps, hk, hb, F.imp fun vs H R E ⟨ds, G, Q, i, g, q, kk⟩ => ⟨ds, G, Q, i, g, h _ _ _ q, kk⟩⟩
end TL
end
section
set_option Elab.async false
set_option linter.all false
set_option maxRecDepth 100000
set_option maxHeartbeats 4000000
namespace TL
open PySem PySem.Spec PyProof.Rows L2

/-! ### list(range(..)) -/
def RgX (X : Cx) (e : Expr) (t : Sd → Gp → (Int → Nat → Int → Gp → Prop) → Prop) : Prop :=
  ∀ (pins : List (Addr × Obj)) (s : Shared) (σ : L2.St) (H : Hp) (ρ : Sd) (G : Gp) (Q : Int → Nat → Int → Gp → Prop), Inv X pins σ H s → Rel (qc X) ρ G σ H → t ρ G Q →
    wpAny (model X.prog X.w) X.A (eval e X.env) (fun x s' => ∃ r a b c n t u v H' G', x = .ref r ∧ IsRange s'.heap r a b c t u v ∧ Builtin.Range.small a b c = true ∧ Builtin.Range.rangeSize a b c = (n : Nat) ∧ Inv X pins σ H' s' ∧ Stay H H' ∧ RG X.prog X.w X.K H' G' ∧ Q a n c G') X.xe s
abbrev TRd := Sd → Gp → (Int → Nat → Int → Gp → Prop) → Prop
def qRg1 (t : TAd) : TRd := fun ρ G Q => t ρ G fun ds G1 => match ds with
  | [.int j] => Lim j ∧ Q 0 j.toNat 1 G1
  | _ => False
def qRg2 (t : TAd) : TRd := fun ρ G Q => t ρ G fun ds G1 => match ds with
  | [.int i, .int j] => Lim i ∧ Lim j ∧ Q i (j - i).toNat 1 G1
  | _ => False
def qRg3 (t : TAd) : TRd := fun ρ G Q => t ρ G fun ds G1 => match ds with
  | [.int i, .int j, .int c] => ∃ n, RgC i j c n ∧ Q i n c G1
  | _ => False
section
variable {X : Cx} {a b c e : Expr} {p pos : Pos} {t : TAd} {tr : TRd}
theorem up_args {es : List Expr} {t : TAd} {ρ : Sd} {G : Gp} {Q : List D → Gp → Prop} (ha : QA X es t) (pos : Pos) {pins : List (Addr × Obj)} {s : Shared} {σ : L2.St} {H : Hp} (I : Inv X pins σ H s) (r : Rel (qc X) ρ G σ H) (h : t ρ G Q) :
    wpAny (model X.prog X.w) X.A (spliced (backTo pos (starEach es X.env))) (AP X pins σ fun vs H1 => ∃ ds G1, Stay H H1 ∧ RG X.prog X.w X.K H1 G1 ∧ IsDs X.K H1 ds vs ∧ Q ds G1) X.xe s :=
  ha.run pos pins s σ H _ I ⟨ρ, G, Q, r, h, fun vs H1 ds G1 s1 g1 i1 q1 => ⟨ds, G1, s1, g1, i1, q1⟩⟩
theorem rgx1 (hg : Gl X "range") (hm : X.mg "range" = none) (ha : QA X [a] t) (hs : starEach [a] X.env = (false, eval a X.env) :: starEach [] X.env := by rfl) : RgX X (.Call (.Name "range" p) [a] [] pos) (qRg1 t) := by
  intro pins s σ H ρ G Q I r h
  refine Call_ (ld_blt I hg hm boot_range (PyProof.Rows.callWith_type1 (thn (up_args ha pos I r h) fun us s1 ⟨vs, H1, I1, r1, ds, G1, s1', g1, i1, q1⟩ => ?_) hs))
  split at q1
  · rename_i j
    obtain ⟨x, rfl, e⟩ := i1.one
    rw [show x = V.int j from e] at r1
    obtain ⟨u, rfl, ru⟩ := r1.one
    obtain ⟨tk, rfl⟩ := ru
    exact call_range_1 ⟨_, 0, j, 1, j.toNat, _, _, _, H1, G1, rfl, IsRange.new _ _ _ _ _ _ _, small_one (by decide) (by decide) q1.1.1 q1.1.2, (by rw [rangeSize_nat]; simp), I1.kept fun b u e => Heap.get?_push_of_some _ e, s1', g1, q1.2⟩
  · exact q1.elim
theorem rgx2 (hg : Gl X "range") (hm : X.mg "range" = none) (ha : QA X [a, b] t) (hs : starEach [a, b] X.env = (false, eval a X.env) :: starEach [b] X.env := by rfl) (hpl : (backTo pos (starEach [b] X.env)).any (·.1) = false := by rfl) : RgX X (.Call (.Name "range" p) [a, b] [] pos) (qRg2 t) := by
  intro pins s σ H ρ G Q I r h
  refine Call_ (ld_blt I hg hm boot_range (PyProof.Rows.callWith_type1 (thn (up_args ha pos I r h) fun us s1 ⟨vs, H1, I1, r1, ds, G1, s1', g1, i1, q1⟩ => ?_) hs hpl))
  split at q1
  · rename_i i j
    obtain ⟨x, y, rfl, e, f⟩ := i1.two
    rw [show x = V.int i from e, show y = V.int j from f] at r1
    obtain ⟨u, v, rfl, ru, rv⟩ := r1.two
    obtain ⟨tk, rfl⟩ := ru
    obtain ⟨tk', rfl⟩ := rv
    exact call_range_2 ⟨_, i, j, 1, (j - i).toNat, _, _, _, H1, G1, rfl, IsRange.new _ _ _ _ _ _ _, small_one q1.1.1 q1.1.2 q1.2.1.1 q1.2.1.2, rangeSize_nat _ _, I1.kept fun b u e => Heap.get?_push_of_some _ e, s1', g1, q1.2.2⟩
  · exact q1.elim
theorem Vals3 {x y z : V} {us : List Value} (h : Vals [x, y, z] us) : ∃ u v w, us = [u, v, w] ∧ RelV x u ∧ RelV y v ∧ RelV z w := by
  cases h with
  | cons a t => obtain ⟨v, w, rfl, b, c⟩ := Vals.two t; exact ⟨_, v, w, rfl, a, b, c⟩
theorem rgx3 (hg : Gl X "range") (hm : X.mg "range" = none) (ha : QA X [a, b, c] t) (hs : starEach [a, b, c] X.env = (false, eval a X.env) :: starEach [b, c] X.env := by rfl) (hpl : (backTo pos (starEach [b, c] X.env)).any (·.1) = false := by rfl) : RgX X (.Call (.Name "range" p) [a, b, c] [] pos) (qRg3 t) := by
  intro pins s σ H ρ G Q I r h
  refine Call_ (ld_blt I hg hm boot_range (PyProof.Rows.callWith_type1 (thn (up_args ha pos I r h) fun us s1 ⟨vs, H1, I1, r1, ds, G1, s1', g1, i1, q1⟩ => ?_) hs hpl))
  split at q1
  · rename_i i j k
    obtain ⟨x, y, z, rfl, e, f, f'⟩ := i1.three
    rw [show x = V.int i from e, show y = V.int j from f, show z = V.int k from f'] at r1
    obtain ⟨u, v, w, rfl, ru, rv, rw⟩ := Vals3 r1
    obtain ⟨tk, rfl⟩ := ru
    obtain ⟨tk', rfl⟩ := rv
    obtain ⟨tk'', rfl⟩ := rw
    obtain ⟨n, ⟨c0, c1, c2, c3⟩, q⟩ := q1
    exact call_range_3 c0 ⟨_, i, j, k, n, _, _, _, H1, G1, rfl, IsRange.new _ _ _ _ _ _ _, c2, c3, I1.kept fun b u e => Heap.get?_push_of_some _ e, s1', g1, q⟩ (.inl (PyProof.noPylong_small c1))
  · exact q1.elim
def qListR (tr : TRd) : TEd := fun ρ G Q => tr ρ G fun lo n c G1 => n ≤ 1000000 ∧ ∀ p, G1 p = none → Q (.ref p) (gup G1 p (.lst (rangeD lo n c)))
theorem vals_rgC {a c : Int} {n : Nat} {acc : Array Value} (h : ItemsOf (fun i v => ∃ t, v = .int (a + i * c) t) acc n) : Vals ((List.range n).map fun i => V.int (a + (i : Nat) * c)) acc.toList := by
  have e : acc.toList.length = n := by rw [Array.length_toList]; exact h.1
  rw [← e]
  refine vals_of_get acc.toList _ fun j u hj => ?_
  obtain ⟨t, rfl⟩ := h.2 j u (by rw [← hj, Array.getElem?_toList])
  exact ⟨t, rfl⟩
theorem isDs_rg {K : PySem.W.Frag} {H : Hp} (lo c : Int) (n : Nat) : IsDs K H (rangeD lo n c) ((List.range n).map fun i => V.int (lo + (i : Nat) * c)) := by
  unfold rangeD
  generalize List.range n = l
  induction l with
  | nil => rfl
  | cons i r ih => exact ⟨_, _, rfl, rfl, ih⟩
theorem q_listR (hc : X.calm = true) (hg : Gl X "list") (hm : X.mg "list" = none) (he : RgX X e tr) (na : starEach [e] X.env = (false, eval e X.env) :: starEach [] X.env := by rfl) : QE X (.Call (.Name "list" p) [e] [] pos) (qListR tr) := by
  refine ⟨fun pins s σ H Q I h => ?_⟩
  obtain ⟨ρ, G, Qd, r, h, kk⟩ := h
  refine Call_ (ld_blt I hg hm boot_list (PyProof.Rows.callWith_type1 (args_cons (thn (he pins s σ H ρ G _ I r h) fun x s1 ⟨rr, a, b, c, n, t, u, v, H1, G1, ex, hr, sm, sz, I1, st, g1, b5, q⟩ => args_nil ?_) na) na))
  subst ex
  refine call_list_range (n := n) (I1.ok.hd hc) hr sm sz (by omega) fun h' tk acc c' hk e' hi => ?_
  have hn := I1.hok.fresh (Nat.le_refl s1.heap.objs.size)
  have st2 := Stay.new (o := .lst ((List.range n).map fun i => V.int (a + (i : Nat) * c))) hn
  refine ⟨.ref s1.heap.objs.size, upd H1 s1.heap.objs.size (.lst ((List.range n).map fun i => V.int (a + (i : Nat) * c))), I1.laid hk (Nat.le_refl _) (show ObjOk X.prog X.w _ _ _ (.lst _) from ⟨?_, acc.toList, c', vals_rgC hi, ?_⟩), rfl, ?_⟩
  · rw [List.length_map, List.length_range, sizeLine_eq]; omega
  · rw [Array.toArray_toList]; exact e'
  · exact kk _ _ (.ref _) _ (st.trans st2) (g1.add (o := .lst (rangeD a n c)) hn ⟨_, upd_same, isDs_rg _ _ _⟩) rfl (q _ (g1.fresh hn))
end

/-! ### tuple * int -/
def repD : Nat → List D → List D
  | 0, _ => []
  | n + 1, ds => ds ++ repD n ds
theorem repD_flat (n : Nat) (ds : List D) : (List.replicate n ds).flatten = repD n ds := by
  induction n with
  | zero => rfl
  | succ n ih => rw [List.replicate_succ, List.flatten_cons, ih]; rfl
theorem IsDs.rep {K : PySem.W.Frag} {H : Hp} {ds : List D} {vs : List V} (h : IsDs K H ds vs) : ∀ n, IsDs K H (repD n ds) (List.replicate n vs).flatten
  | 0 => rfl
  | n + 1 => by rw [List.replicate_succ, List.flatten_cons]; exact h.append (IsDs.rep h n)
theorem tuple_mul1 (l : Addr) (items : Array Value) (n : Nat) (dd : Option Addr) (sl : Array (Option Value)) (u : Tok) :
    Meets (Builtin.«tuple.__mul__» ⟨[.ref l, .int 1 u], []⟩) (fun _ R s => s.heap.get? l = some { cls := .type "tuple", dict := dd, data := .seq items n, slots := sl } ∧ R (.ok (.ret (Value.ref l))) s) :=
  .of_wp fun prog w A R s h => by
    obtain ⟨hp, g, d, tk, os⟩ := s
    obtain ⟨hl, h⟩ := h
    have f1 := AutoSeq1.idx_int
    wp_walk using wpAny_loadPart' hl
    exact ⟨_, rfl, h⟩

def rRep1 (K : PySem.W.Frag) : R2 := fun x y H Q => ∃ l xs, x = .ref l ∧ y = .int 1 ∧ SqT K H l xs ∧ Q (.ref l) H
section
variable {X : Cx}
theorem op_rep1 : OpR X (binaryOp .Mult) (rRep1 X.K) := by
  intro pins s σ H x y v u Q I rx ry h
  obtain ⟨l, xs, rfl, rfl, hT, q⟩ := h
  cases rx
  obtain ⟨t, rfl⟩ := ry
  obtain ⟨its, r, ⟨⟨cls, dd, data, sl⟩, ho, hc, n, hd⟩, hs⟩ := I.tuple hT
  simp only at hc hd
  subst hc hd
  refine wpAny_binaryOp_repeat_ref (T := "tuple") (U := "int") (by decide) ⟨_, ho, rfl⟩ (fun s' => typeIs_int s' 1 t) noFill_tuple_mul F.fills_int_mul F.slot_int_rmul repeat_tuple F.slot_int_index.lookup
    (call_meets F.slot_int_rmul (typeIs_int s 1 t) F.entry_int_rmul (F.args_int_rmul_2 _ _) (int_rmul_tuple 1 t l its.toArray n dd sl)
      ⟨ho, rfl, ⟨_, ho, rfl⟩, call_meets F.slot_tuple_mul ⟨_, ho, rfl⟩ F.entry_tuple_mul (F.args_tuple_mul_2 _ _) (tuple_mul1 l its.toArray n dd sl t) ⟨ho, ?_⟩⟩)
  exact ⟨.ref l, H, I, rfl, q⟩
/-- tuple * k, k from 1 on, or two ints -/
def rdRep : R2d := fun x y G Q => match x, y with
  | .tup ds, .int k => ds ≠ [] ∧ ds.length ≤ 1000 ∧ 1 ≤ k ∧ k ≤ 1000 ∧ Q (.tup (repD k.toNat ds)) G
  | _, _ => False
theorem oq_rep : OpQ X (binaryOp .Mult) rdRep := by
  refine ⟨fun x y H R => rRep1 X.K x y H R ∨ rRepT X.K x y H R, fun pins s σ H x y v u Q I rx ry h => h.elim (op_rep1 pins s σ H x y v u Q I rx ry) (op_repT pins s σ H x y v u Q I rx ry), fun H G x y d e Q R hg hx hy h k => ?_⟩
  unfold rdRep at h
  split at h
  · rename_i ds n
    obtain ⟨h1, h2, h3, h4, q⟩ := h
    obtain ⟨a, xs, rfl, sq, z⟩ := hx
    obtain rfl : y = V.int n := hy
    by_cases e1 : n = 1
    · subst e1
      refine .inl ⟨a, xs, rfl, rfl, sq, k (.ref a) H (.tup (repD 1 ds)) G (Stay.refl H) hg ⟨a, xs, rfl, sq, ?_⟩ q⟩
      have : repD 1 ds = ds := by simp [repD]
      rw [this]; exact z
    · refine .inr ⟨a, n, xs, rfl, rfl, sq, (fun e => h1 ?_), by omega, h4, by rw [z.length]; exact h2, fun p hp => ?_⟩
      · have := z.length; rw [e] at this; exact List.eq_nil_of_length_eq_zero this.symm
      · have st := Stay.new (o := .tup (List.replicate n.toNat xs).flatten) hp
        exact k (.ref p) _ (.tup (repD n.toNat ds)) G st (hg.new hp) ⟨p, _, rfl, .inl (.inl upd_same), (z.rep n.toNat).stay st⟩ q
  · exact h.elim
end

/-! ### sorted(set(xs)) of a list of ints -/
section
variable {P : Program} {w : World} {A : Around} {E : Value → Shared → Prop} {s : Shared}
/-- the empty set's object in the world w -/
abbrev set0 (w : World) : Obj := { cls := .type "set", dict := none, data := .set #[] 0 (.fresh 0 0 (!w.params.followText "set-order")) }
theorem ints_item {items : Array Value} {ns : List Int} (h : IntsAre items.toList ns) (hz : items.size = ns.length) {i : Nat} {v : Value} (e : items[i]? = some v) : ∃ k t, ns[i]? = some k ∧ v = .int k t := by
  obtain ⟨hi, _⟩ := Array.getElem?_eq_some_iff.mp e
  rw [hz] at hi
  obtain ⟨t, q⟩ := PyProof.Rows.IntsAre.int_at h i v (by rw [Array.getElem?_toList]; exact e)
  exact ⟨ns[i], t, List.getElem?_eq_getElem hi, by rw [q, List.getD_eq_getElem?_getD, List.getElem?_eq_getElem hi]; rfl⟩
/-- the new set takes the list's items -/
theorem set_fill {l S : Addr} {items : Array Value} {ns : List Int} {R : Result → Shared → Prop} (hh : A.handled = none) (hl : s.heap.IsList l items) (hi : IntsAre items.toList ns) (hz : items.size = ns.length) (hb : ns.length + 1 < scanBound)
    (hS : s.heap.get? S = some (set0 w)) (hne : l ≠ S)
    (h : ∀ h' tk c, SetR w h' S (fun j => decide (j ∈ ns)) c → c ≤ ns.length → (∀ b o, b ≠ S → s.heap.get? b = some o → h'.get? b = some o) → R (.ok (.ret .none)) { s with heap := h', toks := tk }) :
    codeAny (model P w) A (.builtin "set.update.loop" ⟨[.ref S, .ref s.heap.objs.size], []⟩) R { s with heap := s.heap.push { cls := .type "list_iterator", data := .fields #[.ref l, .int 0 0] } } := by
  obtain ⟨_, el, _⟩ := id hl
  have lS : S < s.heap.objs.size := Heap.lt_size hS
  have ll : l < s.heap.objs.size := Heap.lt_size el
  have out : S ∉ [s.heap.objs.size, l] := by
    simp only [List.mem_cons, List.not_mem_nil, or_false, not_or]
    exact ⟨Nat.ne_of_lt lS, Ne.symm hne⟩
  refine set_update_ints ((Walks.list (show A.in1.handled = none from hh) s.heap.objs.size l (Nat.ne_of_lt ll) items).toS) S out ns hz hb (fun i v e => ints_item hi hz e) items.size 0 _ (by omega) (Nat.zero_le _)
    ⟨⟨_, Heap.get?_push_size _ rfl, rfl, rfl⟩, hl.push _⟩ ⟨0, Nat.le_refl 0, setR_new_at (Heap.get?_push_of_some _ hS)⟩ fun s' c m hc r => ?_
  have e : s' = { s with heap := s'.heap, toks := s'.toks } := by
    have a1 := m.gens
    have a2 := m.drawn
    have a3 := m.os
    cases s'
    simp only at a1 a2 a3
    subst a2 a3
    have a1 : _ = s.gens := a1
    subst a1
    rfl
  rw [e]
  refine h s'.heap s'.toks c r (by rw [← hz]; exact hc) fun b o hb eb => ?_
  refine m.heap b o ?_ (Heap.get?_push_of_some _ eb)
  simp only [List.mem_cons, List.not_mem_nil, or_false, not_or]
  exact ⟨hb, Nat.ne_of_lt (Heap.lt_size eb)⟩
/-- the set's __init__ over a list -/
theorem set_init {l S : Addr} {items : Array Value} {ns : List Int} {R : Result → Shared → Prop} (hh : A.handled = none) (hl : s.heap.IsList l items) (hi : IntsAre items.toList ns) (hz : items.size = ns.length) (hb : ns.length + 1 < scanBound)
    (hS : s.heap.get? S = some (set0 w)) (hne : l ≠ S)
    (h : ∀ h' tk c, SetR w h' S (fun j => decide (j ∈ ns)) c → c ≤ ns.length → (∀ b o, b ≠ S → s.heap.get? b = some o → h'.get? b = some o) → R (.ok (.ret .none)) { s with heap := h', toks := tk }) :
    codeAny (model P w) A (.call (.builtin "set.__init__") ⟨[.ref S, .ref l], []⟩) R s := by
  refine codeAny_call_builtin F.called_set.init.plain F.entry_set_init (check_set_init_1 ⟨_, hS, rfl⟩ ?_)
  obtain ⟨⟨ocls, odict, odata, oslots⟩, el, ec, nl, ed⟩ := id hl
  simp only at ec ed
  subst ec ed
  have b1 := F.sub_list_set
  have b2 := F.sub_list_frozenset
  have b3 : (Value.type "list" == Value.type "dict") = false := by decide
  unfold Builtin.«set.__init__» noKeywords Builtin.Frozenset.updateFrom
  generalize hP : pyIter = PI
  wp_walk
  subst hP
  refine wpAny_pyIter_list hl ?_
  refine wpAny_bind (wpAny_runValue ?_)
  refine set_fill (A := A.in1) hh hl hi hz hb hS hne fun h' tk c r hc k => ?_
  refine wpAny_pure ?_
  show wpAny _ _ (ret Value.none) _ _ _
  exact wpAny_pure (h h' tk c r hc k)
set_option maxHeartbeats 3200000 in
theorem set_listI {l : Addr} {items : Array Value} {ns : List Int} {Q : Value → Shared → Prop} (hh : A.handled = none) (hl : s.heap.IsList l items) (hi : IntsAre items.toList ns) (hz : items.size = ns.length) (hb : ns.length + 1 < scanBound)
    (h : ∀ h' tk c, SetR w h' s.heap.objs.size (fun j => decide (j ∈ ns)) c → c ≤ ns.length → (∀ b o, s.heap.get? b = some o → h'.get? b = some o) → Q (.ref s.heap.objs.size) { s with heap := h', toks := tk }) :
    wpAny (model P w) A (call (.type "set") [.ref l]) Q E s := by
  have hlS : l < s.heap.objs.size := by obtain ⟨o, e, _⟩ := hl; exact Heap.lt_size e
  obtain ⟨c0, tl, a1⟩ := F.called_set.mro
  have a2 := F.called_set.made
  have a3 := F.called_set.sub
  have a4 := F.called_set.notType
  have a5 := F.called_set.canCreate
  have a6 := F.typeCall_set_1 (.ref l)
  refine wpAny_call (codeAny_of_tree ?_)
  show wpAny _ _ (callAny (.type "set") _) _ _ _
  refine wpAny_pure ⟨Code.quiet_builtin _ (by decide +kernel), codeAny_builtin F.entry_type_call ?_⟩
  rw [Around.under_plain (weight_type_call_type "set" [.ref l] []) rfl]
  repeat (any_goals (first | assumption | wp_step))
  refine codeAny_mono (code_set_led1 (.ref l) (E := E) (Q₁ := fun v s₁ => v = .ref s.heap.objs.size ∧ s₁ = { s with heap := s.heap.push (set0 w) }) ⟨rfl, rfl⟩) fun r s₁ hr => ?_
  rcases r with e | fl
  · exact hr
  · cases fl with
    | ret v =>
      obtain ⟨rfl, rfl⟩ := hr
      have hS : (s.heap.push (set0 w)).get? s.heap.objs.size = some (set0 w) := Heap.get?_push_size _ rfl
      have hT : Shared.TypeIs { s with heap := s.heap.push (set0 w) } (.ref s.heap.objs.size) "set" := ⟨_, hS, rfl⟩
      have a7 := F.called_set.init.lookup
      have a8 := F.called_set.init.bind (.ref s.heap.objs.size)
      repeat (any_goals (first | assumption | wp_step))
      refine set_init (s := { s with heap := s.heap.push (set0 w) }) (by simp [hh]) (hl.push _) hi hz hb hS (Nat.ne_of_lt hlS) fun h' tk c r hc k => ?_
      repeat (any_goals (first | assumption | wp_step))
      all_goals first
        | exact h h' tk c r hc fun b o e => k b o (Nat.ne_of_lt (Heap.lt_size e)) (Heap.get?_push_of_some _ e)
        | skip
    | _ => exact hr.elim
end
section
variable {X : Cx} {e : Expr} {te : TEd} {p p2 pos pos2 : Pos}
def rdSSet : RCd := fun ds G Q => match ds with
  | [.ref a] => ∃ ns : List Int, G a = some (.lst (ns.map .int)) ∧ ns.length < 60 ∧ ∀ (out : List Int) (p : Addr), out.Pairwise (· < ·) → (∀ k, k ∈ out ↔ k ∈ ns) → G p = none → Q (.ref p) (gup G p (.lst (out.map .int)))
  | _ => False
/-- set(xs), a list of ints: for sorted alone -/
theorem pe_setI (hc : X.calm = true) (hg : Gl X "set") (hm : X.mg "set" = none) {ta : TA} (ha : PA X [e] ta) (hs : starEach [e] X.env = (false, eval e X.env) :: starEach [] X.env := by rfl) :
    PE X (.Call (.Name "set" p) [e] [] pos) fun σ H Q => ta σ H fun vs H1 => ∃ (a : Addr) (ns : List Int), vs = [V.ref a] ∧ SqL X.K H1 a (ns.map V.int) ∧ ns.length < 60 ∧ ∀ q c, H1 q = none → c ≤ ns.length → Q (.ref q) (upd H1 q (SetO X.w q (fun j => decide (j ∈ ns)) c)) := by
  refine ⟨fun pins s σ H Q I h => ?_⟩
  refine Call_ (ld_blt I hg hm (show bootBuiltins "set" = some (.type "set") by decide +kernel) (PyProof.Rows.callWith_type1 (thn (ha.run pos pins s σ H _ I h) fun us s1 ⟨vs, H1, I1, r1, a, ns, ev, hq, h60, q⟩ => ?_) hs))
  subst ev
  rw [Vals.ref1 r1]
  obtain ⟨its, rv, hl, _⟩ := I1.list hq
  have hi : IntsAre its ns := rv.ints
  have hz : its.toArray.size = ns.length := by rw [List.size_toArray, hi.length]
  refine set_listI (I1.ok.hd hc) hl.isList (by simpa using hi) hz (Nat.lt_trans (Nat.succ_lt_succ h60) (by decide)) fun h' tk c r hcn k => ?_
  have hn := I1.hok.fresh (Nat.le_refl s1.heap.objs.size)
  exact ⟨.ref s1.heap.objs.size, upd H1 s1.heap.objs.size (SetO X.w s1.heap.objs.size (fun j => decide (j ∈ ns)) c), I1.laid k (Nat.le_refl _) (setO_new r), rfl, q _ c hn hcn⟩
theorem q_sset {t : TAd} (hc : X.calm = true) (hg : Gl X "set") (hm : X.mg "set" = none) (hg2 : Gl X "sorted") (hm2 : X.mg "sorted" = none) (ha : QA X [e] t) (hs : starEach [e] X.env = (false, eval e X.env) :: starEach [] X.env := by rfl)
    (he2 : starEach [.Call (.Name "set" p) [e] [] pos] X.env = (false, eval (.Call (.Name "set" p) [e] [] pos) X.env) :: starEach [] X.env := by rfl) :
    QE X (.Call (.Name "sorted" p2) [.Call (.Name "set" p) [e] [] pos] [] pos2) (qCB rdSSet t) := by
  refine pe_imp (pe_callB (cr_sortedSet hc) hg2 hm2 (by decide +kernel) (pa_cons (pe_setI hc hg hm ha hs) pa_nil he2) (by decide) (by decide) he2 (by rfl)) fun σ H R ⟨ρ, G, Q, r, h, k⟩ => ?_
  refine ⟨ρ, G, _, r, h, fun vs H1 ds G1 s1 g1 i1 q1 => ?_⟩
  unfold rdSSet at q1
  split at q1
  · rename_i a
    obtain ⟨ns, e1, h60, q⟩ := q1
    obtain ⟨us, e2, z⟩ := g1 a _ e1
    have := z.ints; subst this
    obtain ⟨x, rfl, ex⟩ := i1.one
    refine ⟨a, ns, by rw [show x = V.ref a from ex], .inl (.inl e2), h60, fun q' c hq hcn => ?_⟩
    have st1 := Stay.new (o := SetO X.w q' (fun j => decide (j ∈ ns)) c) hq
    have gg := g1.new (u := SetO X.w q' (fun j => decide (j ∈ ns)) c) hq
    refine ⟨q', _, c, rfl, upd_same, by omega, fun out p' h1 h2 h3 h4 => ?_⟩
    have hp : H1 p' = none := by
      by_cases e : p' = q'
      · subst e; exact hq
      · rw [upd_ne e] at h4; exact h4
    exact k (.ref p') _ (.ref p') _ ((s1.trans st1).trans (Stay.new h4)) (gg.add (o := .lst (out.map .int)) h4 ⟨_, upd_same, IsDs.of_ints⟩) rfl (q out p' h1 (fun j => by rw [h2]; simp) (g1.fresh hp))
  · exact q1.elim
end
end TL
end
section
set_option Elab.async false
set_option linter.all false
set_option maxRecDepth 100000
set_option maxHeartbeats 4000000
namespace TL
open PySem PySem.Spec PyProof.Rows L2

/-! ### two fors -/
def Lc2In (gd : TGd) (tt : TTd) (src1 : TId) (gd1 : TGd) (tt1 : TTd) (te : TEd) (vs vs1 : List Nat) (ρ : Sd) (items : List D) (gl : List (Addr × O)) (G1 : Gp) (Q : KD) : Prop :=
  ∀ p, G1 p = none → ∃ I : Nat → List D → Gp → Prop, I 0 [] (gup G1 p (.lst [])) ∧ (∀ i acc G, I i acc G → i ≤ items.length → GOf gl G) ∧
    (∀ i d acc G, items[i]? = some d → I i acc G → gd d (wipeD ρ vs) G fun ρ2 G2 => tt ρ2 G2 fun b G3 => Br b
      (src1 ρ2 G3 fun items1 gl1 G4 => ∃ I1 : Nat → List D → Gp → Prop, I1 0 acc G4 ∧ (∀ j acc G, I1 j acc G → j ≤ items1.length → GOf gl1 G) ∧
        (∀ j e acc G, items1[j]? = some e → I1 j acc G → lcTurn gd1 tt1 te p (wipeD ρ2 vs1) (I1 j) (I1 (j + 1)) e acc G) ∧ (∀ acc G, I1 items1.length acc G → I (i + 1) acc G))
      (I (i + 1) acc G3)) ∧ (∀ acc G, I items.length acc G → Q (.ref p) G)
def qLc2 (src : TId) (gd : TGd) (tt : TTd) (src1 : TId) (gd1 : TGd) (tt1 : TTd) (te : TEd) (vs vs1 : List Nat) : TEd := fun ρ G Q => src ρ G fun items gl G1 => Lc2In gd tt src1 gd1 tt1 te vs vs1 ρ items gl G1 Q
section
variable {X : Cx}
theorem lc2_lift {wi wi1 : TId} {g g1 : TG} {gd gd1 : TGd} {tt tt1 : TTd} {te : TEd} {vs vs1 : List Nat} (cg : CG X.K vs g gd) (m : TGm g) (cg1 : CG X.K vs1 g1 gd1) (m1 : TGm g1) :
    ∀ σ H R, up (qc X) (qLc2 wi gd tt wi1 gd1 tt1 te vs vs1) σ H R → tLc2 (upI (qc X) wi) g (upT (qc X) tt) (upI (qc X) wi1) g1 (upT (qc X) tt1) (up (qc X) te) vs vs1 σ H R := by
  rintro σ H R ⟨ρ, G, Q, r, h, k⟩
  refine ⟨ρ, G, _, r, h, fun J H1 items gl G1 s1 g1' sim gu q => ?_⟩
  intro D hD
  obtain ⟨I, h0, hG, hs, hd⟩ := q D (g1'.fresh hD)
  have sD := Stay.new (o := .lst []) hD
  refine ⟨fun i m H' => m = items.length - i ∧ i ≤ items.length ∧ ∃ acc G', Stay H1 H' ∧ RG X.prog X.w X.K H' G' ∧ I i acc G', ⟨items.length, by simp, Nat.zero_le _, [], _, sD, g1'.add (o := .lst []) hD ⟨[], upd_same, rfl⟩, h0⟩, ?_⟩
  rintro i m' H' ⟨rfl, hi, acc, G', st, g', p⟩
  have gd' := hG i acc G' p hi
  by_cases hlt : i < items.length
  · refine .inr ⟨sim.go i H' G' st g' gd' hlt, fun H2 => ∃ acc G2, Stay H1 H2 ∧ RG X.prog X.w X.K H2 G2 ∧ I (i + 1) acc G2, fun H2 q => ⟨items.length - (i + 1), by omega, rfl, hlt, q⟩, fun x H2 y => ?_⟩
    have ed : items[i]? = some items[i] := List.getElem?_eq_getElem hlt
    obtain ⟨s2, g2, i2⟩ := sim.yld i H' G' x H2 st g' gd' y _ ed
    have s12 : Stay H1 H2 := st.trans s2
    have rw' := (r.rv.stay (s1.trans s12)).wipe vs
    refine m.m _ _ _ _ _ (fun σ3 H3 z => ?_) (cg.lift x items[i] (L2.wipe σ vs) H2 (wipeD ρ vs) G' _ rw' i2 (hs i _ acc G' ed p))
    obtain ⟨rfl, ew, ρ3, r3, q3⟩ := z
    refine ⟨by rw [ew, wipe_idem], ρ3, G', _, ⟨r3, g2⟩, q3, fun b H4 G4 s4 g4 q4 => Br.ite ⟨fun e => ?_, fun e => ⟨acc, G4, s12.trans s4, g4, q4.2 e⟩⟩⟩
    -- the inner walk
    refine ⟨ρ3, G4, _, ⟨r3.stay s4, g4⟩, q4.1 e, fun J1 H5 items1 gl1 G5 s5 g5 sim1 gu1 q5 => ?_⟩
    obtain ⟨I1, k0, kG, ks, kd⟩ := q5
    have s15 : Stay H1 H5 := (s12.trans s4).trans s5
    refine ⟨fun j m H' => m = items1.length - j ∧ j ≤ items1.length ∧ ∃ acc G', Stay H5 H' ∧ RG X.prog X.w X.K H' G' ∧ I1 j acc G', ⟨items1.length, by simp, Nat.zero_le _, acc, G5, Stay.refl _, g5, k0⟩, ?_⟩
    rintro j mm H6 ⟨rfl, hj, acc1, G6, st6, g6, p6⟩
    have gd6 := kG j acc1 G6 p6 hj
    by_cases hlt1 : j < items1.length
    · refine .inr ⟨sim1.go j H6 G6 st6 g6 gd6 hlt1, fun H2 => ∃ acc G2, Stay H5 H2 ∧ RG X.prog X.w X.K H2 G2 ∧ I1 (j + 1) acc G2, fun H2 q => ⟨items1.length - (j + 1), by omega, rfl, hlt1, q⟩, fun x1 H7 y1 => ?_⟩
      have ed1 : items1[j]? = some items1[j] := List.getElem?_eq_getElem hlt1
      obtain ⟨s7, g7, i7⟩ := sim1.yld j H6 G6 x1 H7 st6 g6 gd6 y1 _ ed1
      have s57 : Stay H5 H7 := st6.trans s7
      have rw7 := (r3.stay ((s4.trans s5).trans s57)).wipe vs1
      refine m1.m _ _ _ _ _ (fun σ8 H8 z => ?_) (cg1.lift x1 items1[j] (L2.wipe σ3 vs1) H7 (wipeD ρ3 vs1) G6 _ rw7 i7 (ks j _ acc1 G6 ed1 p6))
      obtain ⟨rfl, ew8, ρ8, r8, q8⟩ := z
      refine ⟨by rw [ew8, wipe_idem], ρ8, G6, _, ⟨r8, g7⟩, q8, fun b H9 G9 s9 g9 q9 => Br.ite ⟨fun e => ?_, fun e => ⟨acc1, G9, s57.trans s9, g9, q9.2 e⟩⟩⟩
      refine ⟨ρ8, G9, _, ⟨r8.stay s9, g9⟩, q9.1 e, fun yv Ha yd Ga sa ga ia qa => ?_⟩
      obtain ⟨qa1, ql, qi⟩ := qa
      obtain ⟨xs, hx, ix⟩ := ga D _ qa1
      have sp := Stay.put (u := HO.lst (xs ++ [yv])) hx (fun _ z => by cases z) (fun _ _ z => by cases z)
      refine ⟨xs, hx, by rw [ix.length]; exact ql, acc1 ++ [yd], _, ((s57.trans s9).trans sa).trans sp, ga.put (o := .lst (acc1 ++ [yd])) hx (fun _ z => by cases z) (fun _ _ z => by cases z) ⟨xs ++ [yv], upd_same, ?_⟩, qi⟩
      exact (ix.stay sp).append ⟨yv, [], rfl, ia.stay sp, rfl⟩
    · have e : j = items1.length := by omega
      subst e
      exact .inl ⟨sim1.stop H6 G6 st6 g6 gd6, acc1, G6, s15.trans st6, g6, kd acc1 G6 p6⟩
  · have e : i = items.length := by omega
    subst e
    exact .inl ⟨sim.stop H' G' st g' gd', k (.ref D) H' (.ref D) G' (s1.trans st) g' rfl (hd acc G' p)⟩
theorem q_lc2 {elt tg iter tg1 iter1 : Expr} {ifs ifs1 : List Expr} {scope : Scope} {own : List (Str × Nat)} {vs1 : List Nat} {pos : Pos} {wi wi1 : TId} {g g1 : TG} {gd gd1 : TGd} {tt tt1 : TTd} {te : TEd} (cg : CG X.K (own.map (·.2)) g gd) (m : TGm g) (cg1 : CG X.K vs1 g1 gd1) (m1 : TGm g1) (hv : ∀ i ∈ vs1, i ∈ own.map (·.2))
    (hc : X.calm = true) (hN : X.N.Nodup) (hi : QI X tg iter wi) (ok : BlkOk X.N X.env.scope scope own)
    (hg : ∀ (s : Shared) (H : Hp) (C : Addr) (cl : List (Str × Addr)) (fp : List Addr), PG (X.blk s H scope (compEnvC scope cl C X.env) fp) tg g) (ht : ∀ (s : Shared) (H : Hp) (C : Addr) (cl : List (Str × Addr)) (fp : List Addr), QTs (X.blk s H scope (compEnvC scope cl C X.env) fp) ifs tt)
    (hi1 : ∀ (s : Shared) (H : Hp) (C : Addr) (cl : List (Str × Addr)) (fp : List Addr), QI (X.blk s H scope (compEnvC scope cl C X.env) fp) tg1 iter1 wi1)
    (hg1 : ∀ (s : Shared) (H : Hp) (C : Addr) (cl : List (Str × Addr)) (fp : List Addr), PG (X.blk s H scope (compEnvC scope cl C X.env) fp) tg1 g1) (ht1 : ∀ (s : Shared) (H : Hp) (C : Addr) (cl : List (Str × Addr)) (fp : List Addr), QTs (X.blk s H scope (compEnvC scope cl C X.env) fp) ifs1 tt1)
    (he : ∀ (s : Shared) (H : Hp) (C : Addr) (cl : List (Str × Addr)) (fp : List Addr), QE (X.blk s H scope (compEnvC scope cl C X.env) fp) elt te) (hs : ∀ x, foldedSetIterable iter X.env x = pure x := by intro _; rfl) (hs1 : ∀ env x, foldedSetIterable iter1 env x = pure x := by intro _ _; rfl) :
    QE X (.ListComp elt [⟨tg, iter, ifs, 0⟩, ⟨tg1, iter1, ifs1, 0⟩] scope pos) (qLc2 wi gd tt wi1 gd1 tt1 te (own.map (·.2)) vs1) :=
  pe_imp (pe_lc2 (wi := upI (qc X) wi) (wi1 := upI (qc X) wi1) (tt := upT (qc X) tt) (tt1 := upT (qc X) tt1) (te := up (qc X) te) hc hN hi ok hv hg ht hi1 hg1 ht1 he hs hs1) (lc2_lift cg m cg1 m1)
end

/-! ### comprehensions that change nothing else -/
theorem GSame.refl (G : Gp) : GSame G G := fun _ _ h => h
theorem GSame.trans {G G1 G2 : Gp} (a : GSame G G1) (b : GSame G1 G2) : GSame G G2 := fun x o h => b x o (a x o h)
theorem GSame.gof {G G' : Gp} (s : GSame G G') {gl : List (Addr × O)} (h : GOf gl G) : GOf gl G' := GOf.mono s h
theorem GSame.free {G G' : Gp} (s : GSame G G') {p : Addr} (h : G' p = none) : G p = none := by
  cases e : G p with
  | none => rfl
  | some o => rw [s p o e] at h; cases h
/-- what one turn makes of an item -/
def turnP (gd : TGd) (tt : TTd) (te : TEd) (ρ0 : Sd) (d : D) (G : Gp) (K : Option D → Gp → Prop) : Prop :=
  gd d ρ0 G fun ρ2 G2 => tt ρ2 G2 fun b G3 => Br b (te ρ2 G3 fun y G4 => K (some y) G4) (K none G3)
theorem take_fm {α β : Type} (f : α → Option β) {l : List α} {i : Nat} {d : α} (h : l[i]? = some d) : (l.take (i + 1)).filterMap f = (l.take i).filterMap f ++ (f d).toList := by
  rw [List.take_add_one, h, List.filterMap_append]
  cases e : f d <;> simp [e]
theorem lc_pure {gd : TGd} {tt : TTd} {te : TEd} {vs : List Nat} {ρ : Sd} {items : List D} {gl : List (Addr × O)} {G1 : Gp} {Q : KD} (f : D → Option D) (gf : GOf gl G1) (hl : items.length < 1000000)
    (ht : ∀ (i : Nat) (d : D), items[i]? = some d → ∀ G, GSame G1 G → ∀ K : Option D → Gp → Prop, (∀ G', GSame G G' → K (f d) G') → turnP gd tt te (wipeD ρ vs) d G K)
    (hq : ∀ p G, G1 p = none → GSame G1 G → G p = some (.lst (items.filterMap f)) → Q (.ref p) G) : LcIn gd tt te vs ρ items gl G1 Q := by
  intro p hp
  refine ⟨fun i acc G => acc = (items.take i).filterMap f ∧ G p = some (.lst acc) ∧ GSame G1 G, ⟨rfl, gup_same, GSame.new hp⟩, fun i acc G h _ => h.2.2.gof gf, ?_, ?_⟩
  · rintro i d acc G e ⟨rfl, hg, hs⟩
    have hn := take_fm f e
    have hlt := (List.getElem?_eq_some_iff.mp e).1
    have hb : ((items.take i).filterMap f).length ≤ i := Nat.le_trans (List.length_filterMap_le _ _) (by rw [List.length_take]; omega)
    have hz : ((items.take i).filterMap f).length < sizeLine := by rw [sizeLine_eq]; omega
    exact ht i d e G hs (fun o G4 => match o with
        | some y => G4 p = some (.lst ((items.take i).filterMap f)) ∧ ((items.take i).filterMap f).length < sizeLine ∧ ((items.take i).filterMap f ++ [y]) = (items.take (i + 1)).filterMap f ∧ gup G4 p (.lst ((items.take i).filterMap f ++ [y])) p = some (.lst ((items.take i).filterMap f ++ [y])) ∧ GSame G1 (gup G4 p (.lst ((items.take i).filterMap f ++ [y])))
        | none => (items.take i).filterMap f = (items.take (i + 1)).filterMap f ∧ G4 p = some (.lst ((items.take i).filterMap f)) ∧ GSame G1 G4) fun G4 s4 => by
      have hs4 := hs.trans s4
      cases ef : f d with
      | none => exact ⟨by rw [hn, ef]; simp, s4 p _ hg, hs4⟩
      | some y =>
        refine ⟨s4 p _ hg, hz, by rw [hn, ef]; rfl, gup_same, fun a o ea => ?_⟩
        rw [gup_ne (gne_none ea hp)]
        exact hs4 a o ea
  · rintro acc G ⟨rfl, hg, hs⟩
    rw [List.take_length] at hg
    exact hq p G hp hs hg
end TL
end
section
set_option Elab.async false
set_option linter.all false
set_option maxRecDepth 100000
set_option maxHeartbeats 4000000
namespace TL
open PySem PySem.Spec PyProof.Rows L2
abbrev rSubD : R2d := rdII fun i j => i - j
abbrev rFdiv : R2d := rdIC CDivW fun i j => i / j
abbrev rMod : R2d := rdIC (fun _ j => 0 < j) fun i j => i % j
abbrev rPow : R2d := rdIC CPow fun i j => i ^ j.toNat
abbrev rLt : R2d := rdIB fun i j => decide (i < j)
abbrev rLe : R2d := rdIB fun i j => decide (i ≤ j)
abbrev rGt : R2d := rdIB fun i j => decide (j < i)
abbrev rGe : R2d := rdIB fun i j => decide (j ≤ i)
/-- ints, or a tuple some times -/
def rMulA : R2d := fun x y G Q => match x with
  | .tup _ => rdRep x y G Q
  | _ => rdIC CM (fun i j => i * j) x y G Q
theorem oq_mulA {X : Cx} : OpQ X (binaryOp .Mult) rMulA := by
  obtain ⟨r1, h1, l1⟩ := (oq_mul (X := X)).ex
  obtain ⟨r2, h2, l2⟩ := (oq_rep (X := X)).ex
  refine ⟨fun x y H R => r1 x y H R ∨ r2 x y H R, fun pins s σ H x y v u Q I rx ry h => h.elim (h1 pins s σ H x y v u Q I rx ry) (h2 pins s σ H x y v u Q I rx ry), fun H G x y d e Q R hg hx hy h k => ?_⟩
  unfold rMulA at h
  split at h
  · exact .inr (l2 H G x y _ e Q R hg hx hy h k)
  · exact .inl (l1 H G x y d e Q R hg hx hy h k)
theorem hu64 {k : Nat} {A : Around} (r : Room k A) : A.units + 64 < cLine := by have := r.un; omega
theorem hu65 {k : Nat} {A : Around} (r : Room k A) : A.units + 65 < cLine := by have := r.un; omega
theorem q_globE {X : Cx} {x : Str} {d : D} {pos : Pos} (hg : Gl X x) (h : ∃ v u, X.mg x = some u ∧ RelV v u ∧ ∀ H, IsD X.K H d v) (hd : (x == ("__debug__" : Str)) = false := by decide) : QE X (.Name x pos) (qC d) := by
  obtain ⟨v, u, h1, h2, h3⟩ := h
  exact q_glob hg h1 h2 h3 hd
section
variable {X : Cx}
theorem lin_of {neg : Bool → Bool} {x y : V} {d e : D} {H : Hp} {G : Gp} {Q : KD} {R : VK} (hg : RG X.prog X.w X.K H G) (ix : IsD X.K H d x) (iy : IsD X.K H e y) (h : rdLIn neg d e G Q)
    (k : ∀ v H1 d1 G1, Stay H H1 → RG X.prog X.w X.K H1 G1 → IsD X.K H1 d1 v → Q d1 G1 → R v H1) : ∃ a o, y = .ref a ∧ DGet H a x o ∧ R (.bl (neg o.isSome)) H := by
  cases e with
  | ref a =>
    obtain ⟨kvs, e1, hk, q⟩ := h
    obtain ⟨ls, key, h1, rfl, rfl, pr⟩ := rdl_of hg e1 hk ix
    have z := lent_at (k := key) pr
    refine ⟨a, valV ls key, iy, DGet.k h1, ?_⟩
    have : (valV ls key).isSome = (dget kvs (keyD key)).isSome := by
      cases ed : dget kvs (keyD key) with
      | none => rw [ed] at z; rw [z]; rfl
      | some d => rw [ed] at z; obtain ⟨v, z1, _⟩ := z; rw [z1]; rfl
    rw [this]
    exact k _ H (.bl _) G (Stay.refl H) hg rfl q
  | _ => exact h.elim
theorem oq_lin (hu : X.A.units + 64 < cLine) : OpQ X (compareOp .In) (rdLIn id) := by
  refine ⟨fun x y H R => ∃ a o, y = .ref a ∧ DGet H a x o ∧ R (.bl o.isSome) H, fun pins s σ H x y u v Q I rx ry ⟨a, o, e, g, q⟩ => ?_, fun H G x y d e Q R hg hx hy h k => lin_of (neg := id) hg hx hy h k⟩
  subst e
  obtain rfl : v = Value.ref a := ry
  exact d_in (by omega) I g rx fun s3 I3 => ⟨.bl o.isSome, H, I3, rfl, q⟩
theorem oq_lnin (hu : X.A.units + 64 < cLine) : OpQ X (compareOp .NotIn) (rdLIn not) := by
  refine ⟨fun x y H R => ∃ a o, y = .ref a ∧ DGet H a x o ∧ R (.bl (!o.isSome)) H, fun pins s σ H x y u v Q I rx ry ⟨a, o, e, g, q⟩ => ?_, fun H G x y d e Q R hg hx hy h k => lin_of (neg := not) hg hx hy h k⟩
  subst e
  obtain rfl : v = Value.ref a := ry
  exact d_notIn (by omega) I g rx fun s3 I3 => ⟨.bl (!o.isSome), H, I3, rfl, q⟩
end
end TL
end
section
set_option Elab.async false
set_option linter.all false
set_option maxRecDepth 100000
set_option maxHeartbeats 4000000
namespace TL
open PySem PySem.Spec PyProof.Rows L2
/-! ### how the top's facts are taken -/
structure FunAt (K : PySem.W.Frag) (x qual : Str) (st : Stmt) (f : Addr) (ps : List Str) : Prop where
  ex : ∃ fd, Fun K x qual st f fd ∧ Binds K fd ps []
theorem funAt {K : PySem.W.Frag} {x qual : Str} {st : Stmt} {f : Addr} {ps : List Str} {oc : Value} {od an : Option Addr} {osl : Array (Option Value)} {kV doc pm cdv ct : Value}
    (l : K.lookup f = some ⟨oc, od, .func (PySem.W.fnOf x qual (defArgs st) (defBody st) (defScope st) .none kV doc pm an cdv ct), osl⟩)
    (c : PySem.W.codeIn K cdv qual = true) (k : PySem.W.keepIn K (.ref f) = true)
    (h : ∀ (kV doc pm : Value) (an : Option Addr) (cdv ct : Value) (us : List Value), us.length = ps.length → bindArgs (PySem.W.fnOf x qual (defArgs st) (defBody st) (defScope st) .none kV doc pm an cdv ct) ⟨us, []⟩ = pure (ps.zip us)) : FunAt K x qual st f ps :=
  ⟨_, fun_mk l c k, (fun_mk l c k).binds h⟩
section
variable {P : Program} {w : World} {K : PySem.W.Frag} {mg : Str → Option Value} {base : Heap} {x qual : Str} {st : Stmt} {f C : Addr} {N ps : List Str} {k : Nat} {rd : TSd} {h : Heap}
theorem fnAt (F : FunAt K x qual st f ps) (S : FnScope N ps (defScope st)) (b : BodyQ P w K mg base k f qual st N rd) : FnQ P w K mg base (k + 1) f (spB N.length ps.length rd) := by
  obtain ⟨fd, F, hb⟩ := F.ex
  exact fnQ F S hb b
theorem law_end {fd : FuncData} (F : Fun K x qual st f fd) (S : FnScope N ps (defScope st)) (b : BodyQ P w K mg base k f qual st N rd) : FnOk P w K mg base CX0 (k + 1) f fd ps (spT ⟨P, w, K⟩ (spB N.length ps.length rd)) :=
  F.ok S (fun vs H Q E ⟨ds, G, Q', i, g, q, _⟩ => by rw [i.length]; exact q.1) fun cdv A outer s H vs Q E hr ⟨ds, G, Q', i, g, ⟨q0, q⟩, kk⟩ =>
    ⟨_, b cdv A outer s H E hr, startD N.length ds, G, endsD Q', ⟨start_rv i, g⟩, q, ⟨fun σ H1 ρ G1 s1 r1 q1 => kk .non H1 .non G1 s1 r1.rg rfl q1, fun v H1 d G1 s1 g1 i1 q1 => kk v H1 d G1 s1 g1 i1 q1, fun _ _ _ _ _ _ q => q.elim, fun _ _ _ _ _ _ q => q.elim⟩⟩
/-- what law promises: a list of at most 63 ints is handed in, True comes out -/
def spLaw (K : PySem.W.Frag) : Sp := fun vs H Q _ => ∃ (a : Addr) (ns : List Int), vs = [.ref a] ∧ RoI K H a (ns.map V.int) ∧ ns.length ≤ 63 ∧ ∀ H', Q (.bl true) H'
theorem only_ro {H : Hp} {a : Addr} {xs : List V} (o : Only H) (h : SqL K H a xs) : RoI K H a xs := by
  rcases h with (h | ⟨ob, h⟩) | h
  · rcases o a with e | ⟨ob, ys, e⟩
    · rw [e] at h; cases h
    · rw [e] at h; cases h
  · exact .inl ⟨ob, h⟩
  · exact .inr h
theorem law_imp {fd : FuncData} {sp : Spd} (F : FnOk P w K mg base CX0 k f fd ps (spT ⟨P, w, K⟩ sp)) (h : ∀ ns : List Int, ns.length ≤ 63 → sp [.scr ns] (fun _ => none) fun d _ => d = .bl true) : FnOk P w K mg base CX0 k f fd ps (spLaw K) :=
  F.imp fun vs H Q E ⟨a, ns, e, ro, hl, q⟩ => by
    subst e
    refine ⟨[.scr ns], fun _ => none, _, ⟨.ref a, [], rfl, ⟨a, rfl, ro⟩, rfl⟩, (fun _ _ z => nomatch z), h ns hl, fun v H1 d G1 _ _ i e => ?_⟩
    subst e
    rw [show v = V.bl true from i]
    exact q H1
theorem law_walk {l : PySem.W.OpenLaw} {q : Program} {loose : List Str} {XP : (Str → Option Value) → Heap → Prop} {YP : World → Heap → Prop} {d : DefRec} {K : Params → PySem.W.Frag} (k : Nat) (hn : l.most = some 63) (hdf : d.params.defaults = []) (hr : Room k callerA)
    (hY : ∀ (w : World) (h : Heap), YP w h → (K w.params).In h)
    (F : ∀ (w : World) (mg : Str → Option Value) (fa : Addr) (h : Heap), (K w.params).In h → h.Ns mainGlobals mg → mg d.name = some (.ref fa) →
      ∃ fd : FuncData, (∀ (s : Shared) (u : Value), BindsTo s fd ⟨[u], []⟩ [("script", u)]) ∧ ∀ base : Heap, (K w.params).In base → base.Ns mainGlobals mg → FnOk l.prog w (K w.params) mg base CX0 k fa fd ["script"] (spLaw (K w.params))) :
    PySem.W.WalkO q loose XP YP l.row.toRowW d [] (fun f vs => PySem.call f vs) :=
  L2.walk_of (n := 63) (k := k) (x := "script") (CX := fun _ => CX0) (sp := fun w => spLaw (K w.params)) hn (by decide) hdf hr hY F (fun _ _ a ns hl hO hS => ⟨a, ns, rfl, only_ro hO hS, hl, fun _ => rfl⟩) fun _ _ _ _ _ z => z
end
end TL
end
section
set_option Elab.async false
set_option linter.all false
set_option maxRecDepth 100000
set_option maxHeartbeats 4000000
namespace TL
open PySem PySem.Spec PyProof.Rows L2
/-! ### a, b = a list -/
section
variable {prog : Program} {w : World} {A : Around} {E : Value → Shared → Prop}
theorem ls_but {h h' : Heap} {it l : Addr} {items : Array Value} (hl : h.IsList l items) (hs : ∀ b o, b ≠ it → h.get? b = some o → h'.get? b = some o) (hne : l ≠ it) : h'.IsList l items := by
  obtain ⟨o, e, r⟩ := hl
  exact ⟨o, hs l o hne e, r⟩
theorem draw_lst {it l : Addr} {items : Array Value} (hne : l ≠ it) : ∀ (n i : Nat) (s : Shared) (Q : List Value → Shared → Prop), s.heap.IsListIter it l i → s.heap.IsList l items → i + n ≤ items.size →
    (∀ h', h'.IsListIter it l (i + n) → (∀ b o, b ≠ it → s.heap.get? b = some o → h'.get? b = some o) → Q ((items.toList.drop i).take n) { s with heap := h' }) → wpAny (model prog w) A (draw (.ref it) n) Q E s
  | 0, i, s, Q, hit, _, _, hQ => by
    show wpAny _ _ (pure []) Q E s
    have := hQ s.heap hit fun _ _ _ e => e
    exact wpAny_pure (by simpa using this)
  | n + 1, i, s, Q, hit, hl, hle, hQ => by
    have hlt : i < items.size := by omega
    show wpAny _ _ (pyNext (.ref it) >>= _) Q E s
    refine wpAny_bind (wpAny_pyNext_list_item hit hl (x := items[i]) (by simp [hlt]) fun h1 hit1 hs1 => ?_)
    have k1 : ∀ b o, b ≠ it → s.heap.get? b = some o → h1.get? b = some o := fun b o hb e => (hs1.2 b hb).trans e
    refine wpAny_bind (wpAny_holding (draw_lst hne n (i + 1) _ _ hit1 (ls_but hl k1 hne) (by omega) fun h2 hit2 k2 => wpAny_pure ?_))
    have hd : items.toList.drop i = items[i] :: items.toList.drop (i + 1) := by simp [List.drop_eq_getElem_cons, hlt]
    have := hQ h2 (by rw [show i + (n + 1) = i + 1 + n by omega]; exact hit2) fun b o hb e => k2 b o hb (k1 b o hb e)
    rw [hd, List.take_succ_cons] at this
    exact this
theorem assign_lst {env : Env} {elts : List Expr} {x1} {pos : Pos} {s : Shared} {l : Addr} {items : Array Value} {Q : Unit → Shared → Prop} (hh : A.handled = none) (hl : s.heap.IsList l items)
    (hn : (assignEach elts env).length = items.size) (hstar : (assignEach elts env).findIdx? (·.1) = none)
    (h : ∀ h', (∀ b o, s.heap.get? b = some o → h'.get? b = some o) → wpAny (model prog w) A (assignInOrder ((assignEach elts env).map (·.2)) items.toList) Q E { s with heap := h' }) :
    wpAny (model prog w) A (assign (.Tuple elts x1 pos) env (.ref l)) Q E s := by
  have hlt : l < s.heap.objs.size := by obtain ⟨o, e, _⟩ := hl; exact Heap.lt_size e
  have hne : l ≠ s.heap.objs.size := Nat.ne_of_lt hlt
  rw [assign_Tuple]
  refine wpAny_bind (wpAny_standAt ?_)
  unfold unpack
  rw [hn, hstar]
  refine wpAny_bind (wpAny_holding ?_)
  unfold unpackItems
  refine wpAny_bind ?_
  unfold notIterableAtAll
  refine wpAny_bind (wpAny_specialOf hl.typeIs F.slot_list_iter.lookup ?_)
  refine wpAny_pure ?_
  simp only [Bool.false_eq_true, if_false]
  refine wpAny_bind (wpAny_holding (wpAny_pyIter_list hl ?_))
  refine wpAny_bind (wpAny_holding (draw_lst hne items.size 0 _ _ ⟨_, Heap.get?_push_size _ rfl, rfl, rfl⟩ (hl.push _) (by omega) fun h1 hit1 k1 => ?_))
  have hall : List.take items.size (List.drop 0 items.toList) = items.toList := by
    rw [List.drop_zero]; exact List.take_of_length_le (by simp)
  rw [hall]
  rw [if_neg (by simp)]
  refine wpAny_bind (wpAny_holding (wpAny_pyNext_list_end hh hit1 (ls_but (hl.push _) k1 hne) (by simp) fun h2 he2 => ?_))
  simp only [Option.isSome_none, Bool.false_eq_true, if_false]
  refine wpAny_pure (h h2 fun b o e => ?_)
  have hb : b ≠ s.heap.objs.size := Nat.ne_of_lt (Heap.lt_size e)
  exact he2 b o hb (k1 b o hb (Heap.get?_push_of_some _ e))
end
section
variable {X : Cx} {pos : Pos}
/-- (a, b, ..) = a list of that length -/
def gTupL (K : PySem.W.Frag) (n : Nat) (t : TGs) : TG := fun v σ H Q => ∃ a xs, v = .ref a ∧ SqL K H a xs ∧ xs.length = n ∧ t xs σ H Q
theorem pg_tupL {es : List Expr} {k : Nat} {t : TGs} {n : Nat} (hc : X.calm = true) (h : PGs X es t)
    (hn : (assignEach es X.env).length = n := by rfl) (hst : (assignEach es X.env).findIdx? (·.1) = none := by rfl) : PG X (.Tuple es k pos) (gTupL X.K n t) := by
  refine ⟨fun pins s σ H v u Q I r hw => ?_⟩
  obtain ⟨a, xs, e1, hq, hl, hw⟩ := hw
  subst e1
  cases r
  obtain ⟨its, rv, pl, hz⟩ := I.list hq
  refine assign_lst (I.ok.hd hc) pl.isList (by simp [hn, ← hl, rv.length]) hst fun h' hx => ?_
  have I1 : Inv X pins σ H { s with heap := h' } := I.kept (t' := s.toks) hx
  exact h.run pins _ σ H xs _ Q I1 (by simpa using rv) hw
def qgTupL (n : Nat) (gs : TGsd) : TGd := fun d ρ G Q => match d with
  | .ref a => ∃ ds, G a = some (.lst ds) ∧ ds.length = n ∧ gs ds ρ G Q
  | _ => False
theorem qg_tupL {es : List Expr} {k : Nat} {gs : TGsd} {n : Nat} (hc : X.calm = true) (h : QGs X es gs) (hn : (assignEach es X.env).length = n := by rfl) (hst : (assignEach es X.env).findIdx? (·.1) = none := by rfl) : QG X (.Tuple es k pos) (qgTupL n gs) := by
  refine pg_imp (pg_tupL hc h hn hst) fun v σ H R ⟨d, ρ, G, Q, r, i', q, k⟩ => ?_
  cases d with
  | ref a =>
    obtain ⟨ds, e, hl, q⟩ := q
    obtain ⟨xs, e2, z⟩ := r.rg a _ e
    exact ⟨a, xs, i', .inl (.inl e2), by rw [z.length]; exact hl, ds, ρ, G, Q, r, z, q, k⟩
  | _ => exact q.elim
end
end TL
end
section
set_option Elab.async false
set_option linter.all false
set_option maxRecDepth 100000
set_option maxHeartbeats 4000000
namespace K59
open PySem PySem.Spec PyProof.Rows L2 TL
/-- the text by places -/
def top (i : Nat) : Stmt := PySem.Challenge.pw_knotsinrows_k59_whole_rings_far_on.main.body.getD i (.Pass ⟨0, 0, 0, 0⟩)
def gd_MOST_ROWS : D := .int 60
def gd_MOST_THREADS : D := .int 16
def gd_NEAR_MOTIFS : D := .int 3
def gd_PAIRS : D := .tup [.tup [.int 0, .int 0], .tup [.int 0, .int 1], .tup [.int 1, .int 1]]
structure Txt (K : PySem.W.Frag) (mg : Str → Option Value) (C_Web : Addr) : Prop where
  b_abs : mg "abs" = none
  b_all : mg "all" = none
  b_bool : mg "bool" = none
  b_enumerate : mg "enumerate" = none
  b_int : mg "int" = none
  b_isinstance : mg "isinstance" = none
  b_len : mg "len" = none
  b_list : mg "list" = none
  b_max : mg "max" = none
  b_min : mg "min" = none
  b_range : mg "range" = none
  b_set : mg "set" = none
  b_sorted : mg "sorted" = none
  b_str : mg "str" = none
  b_sum : mg "sum" = none
  b_tuple : mg "tuple" = none
  b_zip : mg "zip" = none
  g_MOST_ROWS : ∃ v u, mg "MOST_ROWS" = some u ∧ RelV v u ∧ ∀ H, IsD K H gd_MOST_ROWS v
  g_MOST_THREADS : ∃ v u, mg "MOST_THREADS" = some u ∧ RelV v u ∧ ∀ H, IsD K H gd_MOST_THREADS v
  g_NEAR_MOTIFS : ∃ v u, mg "NEAR_MOTIFS" = some u ∧ RelV v u ∧ ∀ H, IsD K H gd_NEAR_MOTIFS v
  g_PAIRS : ∃ v u, mg "PAIRS" = some u ∧ RelV v u ∧ ∀ H, IsD K H gd_PAIRS v
  cl_Web : Cls K C_Web
  n_Web_many : NoAttr K C_Web "many"
  n_Web_threads : NoAttr K C_Web "threads"
  n_Web_told : NoAttr K C_Web "told"
section
variable {P : Program} {w : World} {K : PySem.W.Frag} {mg : Str → Option Value} {base : Heap} {C_Web : Addr}
/-! _law_begun -/
abbrev st__law_begun : Stmt := top 39
abbrev N__law_begun : List Str := ["script", "wide", "grain"]
abbrev P__law_begun : List Str := ["script"]
theorem sc__law_begun : FnScope N__law_begun P__law_begun (defScope st__law_begun) := ⟨rfl, rfl, rfl, by decide +kernel, rfl, by decide +kernel, by decide +kernel⟩
def rd__law_begun_1 : TSd := (qRet (qDisp ((.str "wide", (qVar 1)) :: ((.str "cells", (qLc (qSeqI (qVar 0)) (qgName 2) qYes (qBin rMod (qCB rdToInt (qCons (qCB (rdI1 fun i => (i.natAbs : Int)) (qCons (qVar 2) qNil)) qNil)) (qC (.int 2147483629))) [2])) :: ((.str "rest", (qC (.int 0))) :: ((.str "turn", (qC (.int 0))) :: []))))))
def rd__law_begun : TSd := (qSeq (qAsg (qLc (qSeqI (qVar 0)) (qgName 2) (qB (qBin rGe (qCB (rdI1 fun i => (i.natAbs : Int)) (qCons (qVar 2) qNil)) (qBin rPow (qC (.int 10)) (qC (.int 18))))) (qBin rSubD (qCB (rdI1 fun i => (i.natAbs : Int)) (qCons (qVar 2) qNil)) (qBin rPow (qC (.int 10)) (qC (.int 18)))) [2]) (qgName 1)) (rd__law_begun_1))
def sp__law_begun : Spd := spB 3 1 (rd__law_begun)
theorem bd__law_begun (T : Txt K mg C_Web) {f : Addr} : BodyQ P w K mg base 0 f "_law_begun" st__law_begun N__law_begun (rd__law_begun) := fun cdv A outer s H E hr => by
  have hu := hu64 hr
  have hu5 := hu65 hr
  exact (qss_cons (qs_setLc (i := 1) (own := [("grain", 2)]) cg_name tgm_name rfl sc__law_begun.nd rfl rfl (sw_true rfl rfl rfl (by decide +kernel)) (qi_seq (qv 0)) (blkOk_by (by kernel_rfl)) (fun _ _ _ _ _ => (pg_name (i := 2) sc__law_begun.nd rfl (by first | exact .inl rfl | exact .inr rfl))) (fun _ _ _ _ _ => (qts_one (qt_cmp oq_ge (q_callB cq_abs rfl T.b_abs (by decide +kernel) (qa_cons (qv 2) qa_nil)) (q_op oq_pow q_int q_int)))) (fun _ _ _ _ _ => (q_op oq_sub (q_callB cq_abs rfl T.b_abs (by decide +kernel) (qa_cons (qv 2) qa_nil)) (q_op oq_pow q_int q_int))))
      (qss_one (qs_ret (q_disp (ppq_cons (qv 1) (ppq_cons (q_lc (own := [("grain", 2)]) cg_name tgm_name rfl sc__law_begun.nd (qi_seq (qv 0)) (blkOk_by (by kernel_rfl)) (fun _ _ _ _ _ => (pg_name (i := 2) sc__law_begun.nd rfl (by first | exact .inl rfl | exact .inr rfl))) (fun _ _ _ _ _ => qts_nil) (fun _ _ _ _ _ => (q_op oq_mod (q_callTy cq_int rfl T.b_int (by decide +kernel) (qa_cons (q_callB cq_abs rfl T.b_abs (by decide +kernel) (qa_cons (qv 2) qa_nil)) qa_nil)) q_int))) (ppq_cons q_int (ppq_cons q_int ppq_nil))))))))
/-! _law_mixed -/
abbrev st__law_mixed : Stmt := top 40
abbrev N__law_mixed : List Str := ["draw", "turn", "found", "prime", "blend", "grain"]
abbrev P__law_mixed : List Str := ["draw"]
theorem sc__law_mixed : FnScope N__law_mixed P__law_mixed (defScope st__law_mixed) := ⟨rfl, rfl, rfl, by decide +kernel, rfl, by decide +kernel, by decide +kernel⟩
def rd__law_mixed_1 : TSd := (qAsg (qBin rdAdd (qBin rMulA (qVar 2) (qC (.int 2147483647))) (qBin rMod (qCB rdToInt (qCons (qBin rPow (qVar 4) (qC (.int 5))) qNil)) (qVar 3))) (qgName 2))
def rd__law_mixed_2 : TSd := (qSeq (qFor (qSeqI (qBin rdLGet (qVar 0) (qC (.str "cells")))) (qgName 5) (qAsg (qBin rMod (qCB rdToInt (qCons (qBin rdAdd (qBin rdAdd (qBin rMulA (qVar 4) (qC (.int 69621))) (qVar 5)) (qVar 1)) qNil)) (qVar 3)) (qgName 4))) (rd__law_mixed_1))
def rd__law_mixed_3 : TSd := (qSeq (qAsg (qBin rdAdd (qBin rMulA (qC (.int 48271)) (qVar 1)) (qBin rFdiv (qVar 3) (qC (.int 37)))) (qgName 4)) (rd__law_mixed_2))
def rd__law_mixed_4 : TSd := (qRet (qVar 2))
def rd__law_mixed_5 : TSd := (qSeq (qFor (qSeqI (qLst (qCons (qC (.int 2147483647)) (qCons (qC (.int 2147483629)) (qCons (qC (.int 2147483587)) (qCons (qC (.int 2147483579)) qNil)))))) (qgName 3) (rd__law_mixed_3)) (rd__law_mixed_4))
def rd__law_mixed_6 : TSd := (qSeq (qLPut (qVar 0) (qC (.str "turn")) (qVar 1)) (rd__law_mixed_5))
def rd__law_mixed : TSd := (qSeq (qSwap2 1 2 (qTup (qCons (qBin rdAdd (qBin rdLGet (qVar 0) (qC (.str "turn"))) (qC (.int 1))) (qCons (qC (.int 0)) qNil)))) (rd__law_mixed_6))
def sp__law_mixed : Spd := spB 6 1 (rd__law_mixed)
theorem bd__law_mixed (T : Txt K mg C_Web) {f : Addr} : BodyQ P w K mg base 0 f "_law_mixed" st__law_mixed N__law_mixed (rd__law_mixed) := fun cdv A outer s H E hr => by
  have hu := hu64 hr
  have hu5 := hu65 hr
  exact (qss_cons (qs_swap2 (i := 1) (j := 2) rfl sc__law_mixed.nd (q_tup (qa_cons (q_op oq_add (q_lget hu (qv 0) q_str) q_int) (qa_cons q_int qa_nil))))
      (qss_cons (qs_lput hu (qv 0) q_str (qv 1))
      (qss_cons (qs_for PassesOwn.never rfl (qi_seq (q_lst (qa_cons q_int (qa_cons q_int (qa_cons q_int (qa_cons q_int qa_nil)))))) (qg_name (i := 3) sc__law_mixed.nd) (qss_cons (qs_set (i := 4) sc__law_mixed.nd (q_op oq_add (q_op oq_mulA q_int (qv 1)) (q_op oq_fdiv (qv 3) q_int)))
      (qss_cons (qs_for PassesOwn.never rfl (qi_seq (q_lget hu (qv 0) q_str)) (qg_name (i := 5) sc__law_mixed.nd) (qss_one (qs_set (i := 4) sc__law_mixed.nd (q_op oq_mod (q_callTy cq_int rfl T.b_int (by decide +kernel) (qa_cons (q_op oq_add (q_op oq_add (q_op oq_mulA (qv 4) q_int) (qv 5)) (qv 1)) qa_nil)) (qv 3)))))
      (qss_one (qs_set (i := 2) sc__law_mixed.nd (q_op oq_add (q_op oq_mulA (qv 2) q_int) (q_op oq_mod (q_callTy cq_int rfl T.b_int (by decide +kernel) (qa_cons (q_op oq_pow (qv 4) q_int) qa_nil)) (qv 3))))))))
      (qss_one (qs_ret (qv 2))))))
/-! _law_take -/
abbrev st__law_take : Stmt := top 41
abbrev N__law_take : List Str := ["draw", "many", "found"]
abbrev P__law_take : List Str := ["draw", "many"]
theorem sc__law_take : FnScope N__law_take P__law_take (defScope st__law_take) := ⟨rfl, rfl, rfl, by decide +kernel, rfl, by decide +kernel, by decide +kernel⟩
def rd__law_take_1 (s__law_mixed : Spd) : TSd := (qRet (qVar 2))
def rd__law_take_2 (s__law_mixed : Spd) : TSd := (qSeq (qLPut (qVar 0) (qC (.str "rest")) (qBin rFdiv (qBin rdLGet (qVar 0) (qC (.str "rest"))) (qVar 1))) (rd__law_take_1 s__law_mixed))
def rd__law_take_3 (s__law_mixed : Spd) : TSd := (qSeq (qAsg (qBin rMod (qCB rdToInt (qCons (qBin rdLGet (qVar 0) (qC (.str "rest"))) qNil)) (qVar 1)) (qgName 2)) (rd__law_take_2 s__law_mixed))
def rd__law_take (s__law_mixed : Spd) : TSd := (qSeq (qIfS (qB (qBin rdEq (qBin rdLGet (qVar 0) (qC (.str "rest"))) (qC (.int 0)))) (qLPut (qVar 0) (qC (.str "rest")) (qIf (qB (qBin rdNe (qBin rdLGet (qVar 0) (qC (.str "wide"))) (qLst qNil))) (qMet rdPopAt (qBin rdLGet (qVar 0) (qC (.str "wide"))) (qCons (qC (.int 0)) qNil)) (qCall s__law_mixed (qCons (qVar 0) qNil)))) qNext) (rd__law_take_3 s__law_mixed))
def sp__law_take : Spd := spB 3 2 (rd__law_take (sp__law_mixed))
theorem bd__law_take (T : Txt K mg C_Web) {f : Addr} {s__law_mixed : Spd} (d__law_mixed : DefQ P w K mg base 1 "_law_mixed" s__law_mixed) : BodyQ P w K mg base 1 f "_law_take" st__law_take N__law_take (rd__law_take s__law_mixed) := fun cdv A outer s H E hr => by
  have hu := hu64 hr
  have hu5 := hu65 hr
  exact (qss_cons (qs_if (qt_cmp (oq_eq hu) (q_lget hu (qv 0) q_str) q_int) (qss_one (qs_lput hu (qv 0) q_str (q_if (qt_cmp (oq_ne hu) (q_lget hu (qv 0) q_str) (q_lst qa_nil)) (q_bm PySem.F.slot_list_pop PySem.F.type_list_pop mq_popAt (q_lget hu (qv 0) q_str) (qa_cons q_int qa_nil)) (q_call d__law_mixed hr (qa_cons (qv 0) qa_nil))))) qss_nil)
      (qss_cons (qs_set (i := 2) sc__law_take.nd (q_op oq_mod (q_callTy cq_int rfl T.b_int (by decide +kernel) (qa_cons (q_lget hu (qv 0) q_str) qa_nil)) (qv 1)))
      (qss_cons (qs_lput hu (qv 0) q_str (q_op oq_fdiv (q_lget hu (qv 0) q_str) (qv 1)))
      (qss_one (qs_ret (qv 2))))))
/-! _law_pick -/
abbrev st__law_pick : Stmt := top 42
abbrev N__law_pick : List Str := ["draw", "some"]
abbrev P__law_pick : List Str := ["draw", "some"]
theorem sc__law_pick : FnScope N__law_pick P__law_pick (defScope st__law_pick) := ⟨rfl, rfl, rfl, by decide +kernel, rfl, by decide +kernel, by decide +kernel⟩
def rd__law_pick (s__law_take : Spd) : TSd := (qRet (qBin rdIx (qVar 1) (qCall s__law_take (qCons (qVar 0) (qCons (qCB rdLen (qCons (qVar 1) qNil)) qNil)))))
def sp__law_pick : Spd := spB 2 2 (rd__law_pick (sp__law_take))
theorem bd__law_pick (T : Txt K mg C_Web) {f : Addr} {s__law_take : Spd} (d__law_take : DefQ P w K mg base 2 "_law_take" s__law_take) : BodyQ P w K mg base 2 f "_law_pick" st__law_pick N__law_pick (rd__law_pick s__law_take) := fun cdv A outer s H E hr => by
  have hu := hu64 hr
  have hu5 := hu65 hr
  exact (qss_one (qs_ret (q_ix (qv 1) (q_call d__law_take hr (qa_cons (qv 0) (qa_cons (q_callB cq_len rfl T.b_len (by decide +kernel) (qa_cons (qv 1) qa_nil)) qa_nil))))))
/-! _law_spots -/
abbrev st__law_spots : Stmt := top 44
abbrev N__law_spots : List Str := ["threads", "row", "s"]
abbrev P__law_spots : List Str := ["threads", "row"]
theorem sc__law_spots : FnScope N__law_spots P__law_spots (defScope st__law_spots) := ⟨rfl, rfl, rfl, by decide +kernel, rfl, by decide +kernel, by decide +kernel⟩
def rd__law_spots : TSd := (qRet (qLc (qRng1 (qCons (qBin rSubD (qVar 0) (qC (.int 1))) qNil)) (qgName 2) (qB (qBin rdEq (qBin rMod (qCB rdToInt (qCons (qBin rdAdd (qVar 2) (qVar 1)) qNil)) (qC (.int 2))) (qC (.int 0)))) (qVar 2) [2]))
def sp__law_spots : Spd := spB 3 2 (rd__law_spots)
theorem bd__law_spots (T : Txt K mg C_Web) {f : Addr} : BodyQ P w K mg base 0 f "_law_spots" st__law_spots N__law_spots (rd__law_spots) := fun cdv A outer s H E hr => by
  have hu := hu64 hr
  have hu5 := hu65 hr
  exact (qss_one (qs_ret (q_lc (own := [("s", 2)]) cg_name tgm_name rfl sc__law_spots.nd (qi_range1 rfl T.b_range (qa_cons (q_op oq_sub (qv 0) q_int) qa_nil)) (blkOk_by (by kernel_rfl)) (fun _ _ _ _ _ => (pg_name (i := 2) sc__law_spots.nd rfl (by first | exact .inl rfl | exact .inr rfl))) (fun _ _ _ _ _ => (qts_one (qt_cmp (oq_eq hu) (q_op oq_mod (q_callTy cq_int rfl T.b_int (by decide +kernel) (qa_cons (q_op oq_add (qv 2) (qv 1)) qa_nil)) q_int) q_int))) (fun _ _ _ _ _ => (qv 2)))))
/-! _law_wished_rows -/
abbrev st__law_wished_rows : Stmt := top 47
abbrev N__law_wished_rows : List Str := ["draw", "threads", "many", "share", "pairs", "r", "s"]
abbrev P__law_wished_rows : List Str := ["draw", "threads", "many", "share"]
theorem sc__law_wished_rows : FnScope N__law_wished_rows P__law_wished_rows (defScope st__law_wished_rows) := ⟨rfl, rfl, rfl, by decide +kernel, rfl, by decide +kernel, by decide +kernel⟩
def rd__law_wished_rows_1 (s__law_pick : Spd) (s__law_spots : Spd) (s__law_take : Spd) : TSd := (qRet (qCB rdTuple (qCons (qLc (qRng1 (qCons (qVar 2) qNil)) (qgName 5) qYes (qCB rdTuple (qCons (qLc (qSeqI (qCall s__law_spots (qCons (qVar 1) (qCons (qVar 5) qNil)))) (qgName 6) qYes (qIf (qB (qBin rdEq (qCall s__law_take (qCons (qVar 0) (qCons (qVar 3) qNil))) (qC (.int 0)))) (qC .non) (qCall s__law_pick (qCons (qVar 0) (qCons (qVar 4) qNil)))) [6]) qNil)) [5]) qNil)))
def rd__law_wished_rows (s__law_pick : Spd) (s__law_spots : Spd) (s__law_take : Spd) : TSd := (qSeq (qAsg (qCall s__law_pick (qCons (qVar 0) (qCons (qLst (qCons (qLst (qCons (qC (.int 0)) (qCons (qC (.int 1)) qNil))) (qCons (qLst (qCons (qC (.int 0)) (qCons (qC (.int 1)) (qCons (qC (.int 0)) (qCons (qC (.int 1)) (qCons (qTup (qCons (qC (.int 0)) (qCons (qC (.int 1)) qNil))) qNil)))))) (qCons (qLst (qCons (qC (.int 0)) (qCons (qC (.int 1)) (qCons (qTup (qCons (qC (.int 0)) (qCons (qC (.int 0)) qNil))) (qCons (qTup (qCons (qC (.int 0)) (qCons (qC (.int 1)) qNil))) (qCons (qTup (qCons (qC (.int 1)) (qCons (qC (.int 1)) qNil))) qNil)))))) qNil)))) qNil))) (qgName 4)) (rd__law_wished_rows_1 s__law_pick s__law_spots s__law_take))
def sp__law_wished_rows : Spd := spB 7 4 (rd__law_wished_rows (sp__law_pick) (sp__law_spots) (sp__law_take))
theorem bd__law_wished_rows (T : Txt K mg C_Web) {f : Addr} {s__law_pick : Spd} (d__law_pick : DefQ P w K mg base 3 "_law_pick" s__law_pick) {s__law_spots : Spd} (d__law_spots : DefQ P w K mg base 1 "_law_spots" s__law_spots) {s__law_take : Spd} (d__law_take : DefQ P w K mg base 2 "_law_take" s__law_take) : BodyQ P w K mg base 3 f "_law_wished_rows" st__law_wished_rows N__law_wished_rows (rd__law_wished_rows s__law_pick s__law_spots s__law_take) := fun cdv A outer s H E hr => by
  have hu := hu64 hr
  have hu5 := hu65 hr
  exact (qss_cons (qs_set (i := 4) sc__law_wished_rows.nd (q_call d__law_pick hr (qa_cons (qv 0) (qa_cons (q_lst (qa_cons (q_lst (qa_cons q_int (qa_cons q_int qa_nil))) (qa_cons (q_lst (qa_cons q_int (qa_cons q_int (qa_cons q_int (qa_cons q_int (qa_cons (q_tup (qa_cons q_int (qa_cons q_int qa_nil))) qa_nil)))))) (qa_cons (q_lst (qa_cons q_int (qa_cons q_int (qa_cons (q_tup (qa_cons q_int (qa_cons q_int qa_nil))) (qa_cons (q_tup (qa_cons q_int (qa_cons q_int qa_nil))) (qa_cons (q_tup (qa_cons q_int (qa_cons q_int qa_nil))) qa_nil)))))) qa_nil)))) qa_nil))))
      (qss_one (qs_ret (q_callTy cq_tuple rfl T.b_tuple (by decide +kernel) (qa_cons (q_lc (own := [("r", 5)]) cg_name tgm_name rfl sc__law_wished_rows.nd (qi_range1 rfl T.b_range (qa_cons (qv 2) qa_nil)) (blkOk_by (by kernel_rfl)) (fun _ _ _ _ _ => (pg_name (i := 5) sc__law_wished_rows.nd rfl (by first | exact .inl rfl | exact .inr rfl))) (fun _ _ _ _ _ => qts_nil) (fun _ _ _ _ _ => (q_callTy cq_tuple rfl T.b_tuple (by decide +kernel) (qa_cons (q_lc (own := [("s", 6)]) cg_name tgm_name rfl sc__law_wished_rows.nd (qi_seq (q_call d__law_spots hr (qa_cons (qv 1) (qa_cons (qv 5) qa_nil)))) (blkOk_by (by kernel_rfl)) (fun _ _ _ _ _ => (pg_name (i := 6) sc__law_wished_rows.nd rfl (by first | exact .inl rfl | exact .inr rfl))) (fun _ _ _ _ _ => qts_nil) (fun _ _ _ _ _ => (q_if (qt_cmp (oq_eq hu) (q_call d__law_take hr (qa_cons (qv 0) (qa_cons (qv 3) qa_nil))) q_int) q_non (q_call d__law_pick hr (qa_cons (qv 0) (qa_cons (qv 4) qa_nil)))))) qa_nil)))) qa_nil)))))
/-! _law_shuffled -/
abbrev st__law_shuffled : Stmt := top 43
abbrev N__law_shuffled : List Str := ["draw", "some", "left", "found"]
abbrev P__law_shuffled : List Str := ["draw", "some"]
theorem sc__law_shuffled : FnScope N__law_shuffled P__law_shuffled (defScope st__law_shuffled) := ⟨rfl, rfl, rfl, by decide +kernel, rfl, by decide +kernel, by decide +kernel⟩
def rd__law_shuffled_1 (s__law_take : Spd) : TSd := (qRet (qVar 3))
def rd__law_shuffled_2 (s__law_take : Spd) : TSd := (qSeq (qWhile (qB (qBin rdNe (qVar 2) (qLst qNil))) (qDrop (qMet rdApp (qVar 3) (qCons (qMet rdPopAt (qVar 2) (qCons (qCall s__law_take (qCons (qVar 0) (qCons (qCB rdLen (qCons (qVar 2) qNil)) qNil))) qNil)) qNil)))) (rd__law_shuffled_1 s__law_take))
def rd__law_shuffled (s__law_take : Spd) : TSd := (qSeq (qSwap2 2 3 (qTup (qCons (qCB rdList (qCons (qVar 1) qNil)) (qCons (qLst qNil) qNil)))) (rd__law_shuffled_2 s__law_take))
def sp__law_shuffled : Spd := spB 4 2 (rd__law_shuffled (sp__law_take))
theorem bd__law_shuffled (T : Txt K mg C_Web) {f : Addr} {s__law_take : Spd} (d__law_take : DefQ P w K mg base 2 "_law_take" s__law_take) : BodyQ P w K mg base 2 f "_law_shuffled" st__law_shuffled N__law_shuffled (rd__law_shuffled s__law_take) := fun cdv A outer s H E hr => by
  have hu := hu64 hr
  have hu5 := hu65 hr
  exact (qss_cons (qs_swap2 (i := 2) (j := 3) rfl sc__law_shuffled.nd (q_tup (qa_cons (q_callTy cq_list rfl T.b_list (by decide +kernel) (qa_cons (qv 1) qa_nil)) (qa_cons (q_lst qa_nil) qa_nil))))
      (qss_cons (qs_while PassesOwn.never (qt_cmp (oq_ne hu) (qv 2) (q_lst qa_nil)) (qss_one (qs_expr (q_bm PySem.F.slot_list_append PySem.F.type_list_append mq_app (qv 3) (qa_cons (q_bm PySem.F.slot_list_pop PySem.F.type_list_pop mq_popAt (qv 2) (qa_cons (q_call d__law_take hr (qa_cons (qv 0) (qa_cons (q_callB cq_len rfl T.b_len (by decide +kernel) (qa_cons (qv 2) qa_nil)) qa_nil))) qa_nil)) qa_nil)))))
      (qss_one (qs_ret (qv 3)))))
/-! _law_node -/
abbrev st__law_node : Stmt := top 49
abbrev N__law_node : List Str := ["row", "cut", "threads"]
abbrev P__law_node : List Str := ["row", "cut", "threads"]
theorem sc__law_node : FnScope N__law_node P__law_node (defScope st__law_node) := ⟨rfl, rfl, rfl, by decide +kernel, rfl, by decide +kernel, by decide +kernel⟩
def rd__law_node_1 : TSd := (qRet (qIf (qB (qBin rdEq (qBin rMod (qCB rdToInt (qCons (qBin rSubD (qVar 0) (qVar 1)) qNil)) (qC (.int 2))) (qC (.int 0)))) (qTup (qCons (qVar 0) (qCons (qVar 1) qNil))) (qTup (qCons (qBin rSubD (qVar 0) (qC (.int 1))) (qCons (qVar 1) qNil)))))
def rd__law_node : TSd := (qSeq (qIfS (qOrT (qB (qBin (rdInTup id) (qVar 1) (qTup (qCons (qC (.int 0)) (qCons (qVar 2) qNil))))) (qB (qBin rdEq (qVar 0) (qC (.int 0))))) (qRet (qTup (qCons (qC (.int 0)) (qCons (qVar 1) qNil)))) qNext) (rd__law_node_1))
def sp__law_node : Spd := spB 3 3 (rd__law_node)
theorem bd__law_node (T : Txt K mg C_Web) {f : Addr} : BodyQ P w K mg base 0 f "_law_node" st__law_node N__law_node (rd__law_node) := fun cdv A outer s H E hr => by
  have hu := hu64 hr
  have hu5 := hu65 hr
  exact (qss_cons (qs_if (qw_t (qw_or (qt_cmp (hm := by rfl) (oq_inT hu5) (qv 1) (q_tup (qa_cons q_int (qa_cons (qv 2) qa_nil)))) (qw_or1 (qt_cmp (oq_eq hu) (qv 0) q_int)))) (qss_one (qs_ret (q_tup (qa_cons q_int (qa_cons (qv 1) qa_nil))))) qss_nil)
      (qss_one (qs_ret (q_if (qt_cmp (oq_eq hu) (q_op oq_mod (q_callTy cq_int rfl T.b_int (by decide +kernel) (qa_cons (q_op oq_sub (qv 0) (qv 1)) qa_nil)) q_int) q_int) (q_tup (qa_cons (qv 0) (qa_cons (qv 1) qa_nil))) (q_tup (qa_cons (q_op oq_sub (qv 0) q_int) (qa_cons (qv 1) qa_nil)))))))
/-! _law_far_ring -/
abbrev st__law_far_ring : Stmt := top 53
abbrev N__law_far_ring : List Str := ["threads", "wishes", "start", "row", "line", "s", "wish", "low", "middle", "high", "least", "p"]
abbrev P__law_far_ring : List Str := ["threads", "wishes", "start", "row"]
theorem sc__law_far_ring : FnScope N__law_far_ring P__law_far_ring (defScope st__law_far_ring) := ⟨rfl, rfl, rfl, by decide +kernel, rfl, by decide +kernel, by decide +kernel⟩
def rd__law_far_ring_1 (s__law_spots : Spd) (s__law_node : Spd) : TSd := (qAsg (qBin rdAdd (qVar 4) (qIf (qOrT (qB (qBin rGt (qVar 10) (qC (.int 0)))) (qB (qIsi "tuple" (qVar 6)))) (qLst (qCons (qTup (qCons (qVar 7) (qCons (qVar 9) (qCons (qBin rSubD (qC (.int 0)) (qVar 10)) qNil)))) qNil)) (qLst (qCons (qTup (qCons (qVar 7) (qCons (qVar 8) (qCons (qC (.int 0)) qNil)))) (qCons (qTup (qCons (qVar 8) (qCons (qVar 9) (qCons (qC (.int 0)) qNil)))) qNil))))) (qgName 4))
def rd__law_far_ring_2 (s__law_spots : Spd) (s__law_node : Spd) : TSd := (qSeq (qAsg (qIf (qB (qIsi "tuple" (qVar 6))) (qCB rdSum (qCons (qVar 6) qNil)) (qIf (qB (qBin rdEq (qVar 6) (qC (.int 1)))) (qC (.int 1)) (qC (.int 0)))) (qgName 10)) (rd__law_far_ring_1 s__law_spots s__law_node))
def rd__law_far_ring_3 (s__law_spots : Spd) (s__law_node : Spd) : TSd := (qSeq (qSwap3 7 8 9 (qTup (qCons (qCall s__law_node (qCons (qVar 3) (qCons (qVar 5) (qCons (qVar 0) qNil)))) (qCons (qCall s__law_node (qCons (qVar 3) (qCons (qBin rdAdd (qVar 5) (qC (.int 1))) (qCons (qVar 0) qNil)))) (qCons (qCall s__law_node (qCons (qVar 3) (qCons (qBin rdAdd (qVar 5) (qC (.int 2))) (qCons (qVar 0) qNil)))) qNil))))) (rd__law_far_ring_2 s__law_spots s__law_node))
def rd__law_far_ring_4 (s__law_spots : Spd) (s__law_node : Spd) : TSd := (qRet (qCB rdTuple (qCons (qVar 4) qNil)))
def rd__law_far_ring_5 (s__law_spots : Spd) (s__law_node : Spd) : TSd := (qSeq (qFor (qRng3 (qCons (qBin rSubD (qVar 0) (qC (.int 1))) (qCons (qNeg (qC (.int 1))) (qCons (qNeg (qC (.int 1))) qNil)))) (qgName 11) (qDrop (qMet rdApp (qVar 4) (qCons (qTup (qCons (qTup (qCons (qC (.int 0)) (qCons (qBin rdAdd (qVar 11) (qC (.int 1))) qNil))) (qCons (qTup (qCons (qC (.int 0)) (qCons (qVar 11) qNil))) (qCons (qBin rdIx (qVar 2) (qVar 11)) qNil)))) qNil)))) (rd__law_far_ring_4 s__law_spots s__law_node))
def rd__law_far_ring_6 (s__law_spots : Spd) (s__law_node : Spd) : TSd := (qSeq (qIfS (qB (qBin rdEq (qBin rMod (qCB rdToInt (qCons (qVar 0) qNil)) (qC (.int 2))) (qC (.int 1)))) (qDrop (qMet rdApp (qVar 4) (qCons (qTup (qCons (qCall s__law_node (qCons (qVar 3) (qCons (qBin rSubD (qVar 0) (qC (.int 1))) (qCons (qVar 0) qNil)))) (qCons (qTup (qCons (qC (.int 0)) (qCons (qVar 0) qNil))) (qCons (qC (.int 0)) qNil)))) qNil))) qNext) (rd__law_far_ring_5 s__law_spots s__law_node))
def rd__law_far_ring_7 (s__law_spots : Spd) (s__law_node : Spd) : TSd := (qSeq (qFor (qZipI (qCons (qCall s__law_spots (qCons (qVar 0) (qCons (qVar 3) qNil))) (qCons (qVar 1) qNil))) (qgTup 2 (qgCons (qgName 5) (qgCons (qgName 6) qgNil))) (rd__law_far_ring_3 s__law_spots s__law_node)) (rd__law_far_ring_6 s__law_spots s__law_node))
def rd__law_far_ring (s__law_spots : Spd) (s__law_node : Spd) : TSd := (qSeq (qAsg (qLst qNil) (qgName 4)) (rd__law_far_ring_7 s__law_spots s__law_node))
def sp__law_far_ring : Spd := spB 12 4 (rd__law_far_ring (sp__law_spots) (sp__law_node))
theorem bd__law_far_ring (T : Txt K mg C_Web) {f : Addr} {s__law_spots : Spd} (d__law_spots : DefQ P w K mg base 1 "_law_spots" s__law_spots) {s__law_node : Spd} (d__law_node : DefQ P w K mg base 1 "_law_node" s__law_node) : BodyQ P w K mg base 1 f "_law_far_ring" st__law_far_ring N__law_far_ring (rd__law_far_ring s__law_spots s__law_node) := fun cdv A outer s H E hr => by
  have hu := hu64 hr
  have hu5 := hu65 hr
  exact (qss_cons (qs_set (i := 4) sc__law_far_ring.nd (q_lst qa_nil))
      (qss_cons (qs_for PassesOwn.never rfl (qi_zip rfl T.b_zip (qa_cons (q_call d__law_spots hr (qa_cons (qv 0) (qa_cons (qv 3) qa_nil))) (qa_cons (qv 1) qa_nil))) (qg_tup rfl (qgs_cons (qg_name (i := 5) sc__law_far_ring.nd) (qgs_cons (qg_name (i := 6) sc__law_far_ring.nd) qgs_nil))) (qss_cons (qs_swap3 (i := 7) (j := 8) (k := 9) rfl sc__law_far_ring.nd (q_tup (qa_cons (q_call d__law_node hr (qa_cons (qv 3) (qa_cons (qv 5) (qa_cons (qv 0) qa_nil)))) (qa_cons (q_call d__law_node hr (qa_cons (qv 3) (qa_cons (q_op oq_add (qv 5) q_int) (qa_cons (qv 0) qa_nil)))) (qa_cons (q_call d__law_node hr (qa_cons (qv 3) (qa_cons (q_op oq_add (qv 5) q_int) (qa_cons (qv 0) qa_nil)))) qa_nil)))))
      (qss_cons (qs_set (i := 10) sc__law_far_ring.nd (q_if (qt_val (q_isi rfl T.b_isinstance rfl T.b_tuple (by decide +kernel) (qv 6))) (q_callB (cq_sum rfl) rfl T.b_sum (by decide +kernel) (qa_cons (qv 6) qa_nil)) (q_if (qt_cmp (oq_eq hu) (qv 6) q_int) q_int q_int)))
      (qss_one (qs_set (i := 4) sc__law_far_ring.nd (q_op oq_add (qv 4) (q_if (qw_t (qw_or (qt_cmp oq_gt (qv 10) q_int) (qw_or1 (qt_val (q_isi rfl T.b_isinstance rfl T.b_tuple (by decide +kernel) (qv 6)))))) (q_lst (qa_cons (q_tup (qa_cons (qv 7) (qa_cons (qv 9) (qa_cons (q_op oq_sub q_int (qv 10)) qa_nil)))) qa_nil)) (q_lst (qa_cons (q_tup (qa_cons (qv 7) (qa_cons (qv 8) (qa_cons q_int qa_nil)))) (qa_cons (q_tup (qa_cons (qv 8) (qa_cons (qv 9) (qa_cons q_int qa_nil)))) qa_nil))))))))))
      (qss_cons (qs_if (qt_cmp (oq_eq hu) (q_op oq_mod (q_callTy cq_int rfl T.b_int (by decide +kernel) (qa_cons (qv 0) qa_nil)) q_int) q_int) (qss_one (qs_expr (q_bm PySem.F.slot_list_append PySem.F.type_list_append mq_app (qv 4) (qa_cons (q_tup (qa_cons (q_call d__law_node hr (qa_cons (qv 3) (qa_cons (q_op oq_sub (qv 0) q_int) (qa_cons (qv 0) qa_nil)))) (qa_cons (q_tup (qa_cons q_int (qa_cons (qv 0) qa_nil))) (qa_cons q_int qa_nil)))) qa_nil)))) qss_nil)
      (qss_cons (qs_for PassesOwn.never rfl (qi_range3 rfl T.b_range (qa_cons (q_op oq_sub (qv 0) q_int) (qa_cons (q_neg q_int) (qa_cons (q_neg q_int) qa_nil)))) (qg_name (i := 11) sc__law_far_ring.nd) (qss_one (qs_expr (q_bm PySem.F.slot_list_append PySem.F.type_list_append mq_app (qv 4) (qa_cons (q_tup (qa_cons (q_tup (qa_cons q_int (qa_cons (q_op oq_add (qv 11) q_int) qa_nil))) (qa_cons (q_tup (qa_cons q_int (qa_cons (qv 11) qa_nil))) (qa_cons (q_ix (qv 2) (qv 11)) qa_nil)))) qa_nil)))))
      (qss_one (qs_ret (q_callTy cq_tuple rfl T.b_tuple (by decide +kernel) (qa_cons (qv 4) qa_nil))))))))
/-! _law_is_int -/
abbrev st__law_is_int : Stmt := top 46
abbrev N__law_is_int : List Str := ["thing", "low", "high"]
abbrev P__law_is_int : List Str := ["thing", "low", "high"]
theorem sc__law_is_int : FnScope N__law_is_int P__law_is_int (defScope st__law_is_int) := ⟨rfl, rfl, rfl, by decide +kernel, rfl, by decide +kernel, by decide +kernel⟩
def rd__law_is_int : TSd := (qRet (qAndV (qIsi "int" (qVar 0)) (qAndV (qNotV (qIsi "bool" (qVar 0))) (qChain rLe rLe (qVar 1) (qVar 0) (qVar 2)))))
def sp__law_is_int : Spd := spB 3 3 (rd__law_is_int)
theorem bd__law_is_int (T : Txt K mg C_Web) {f : Addr} : BodyQ P w K mg base 0 f "_law_is_int" st__law_is_int N__law_is_int (rd__law_is_int) := fun cdv A outer s H E hr => by
  have hu := hu64 hr
  have hu5 := hu65 hr
  exact (qss_one (qs_ret (q_and (q_isi rfl T.b_isinstance rfl T.b_int (by decide +kernel) (qv 0)) (q_and (q_not (q_isi rfl T.b_isinstance rfl T.b_bool (by decide +kernel) (qv 0))) (q_one (q_chain oq_le oq_le (qv 1) (qv 0) (qv 2)))))))
/-! _law_row_wishes -/
abbrev st__law_row_wishes : Stmt := top 50
abbrev N__law_row_wishes : List Str := ["threads", "rows", "r", "found", "p", "x", "y"]
abbrev P__law_row_wishes : List Str := ["threads", "rows", "r"]
theorem sc__law_row_wishes : FnScope N__law_row_wishes P__law_row_wishes (defScope st__law_row_wishes) := ⟨rfl, rfl, rfl, by decide +kernel, rfl, by decide +kernel, by decide +kernel⟩
def rd__law_row_wishes_1 (s__law_node : Spd) : TSd := (qAsg (qBin rdAdd (qVar 3) (qLst (qCons (qTup (qCons (qVar 5) (qCons (qVar 6) (qCons (qC (.int 1)) qNil)))) (qCons (qTup (qCons (qVar 6) (qCons (qVar 5) (qCons (qC (.int 0)) qNil)))) qNil)))) (qgName 3))
def rd__law_row_wishes_2 (s__law_node : Spd) : TSd := (qSeq (qSwap2 5 6 (qTup (qCons (qCall s__law_node (qCons (qVar 2) (qCons (qBin rdAdd (qVar 4) (qC (.int 1))) (qCons (qVar 0) qNil)))) (qCons (qCall s__law_node (qCons (qVar 2) (qCons (qVar 4) (qCons (qVar 0) qNil)))) qNil)))) (rd__law_row_wishes_1 s__law_node))
def rd__law_row_wishes_3 (s__law_node : Spd) : TSd := (qRet (qVar 3))
def rd__law_row_wishes_4 (s__law_node : Spd) : TSd := (qSeq (qFor (qRng1 (qCons (qVar 0) qNil)) (qgName 4) (rd__law_row_wishes_2 s__law_node)) (rd__law_row_wishes_3 s__law_node))
def rd__law_row_wishes (s__law_node : Spd) : TSd := (qSeq (qAsg (qLst qNil) (qgName 3)) (rd__law_row_wishes_4 s__law_node))
def sp__law_row_wishes : Spd := spB 7 3 (rd__law_row_wishes (sp__law_node))
theorem bd__law_row_wishes (T : Txt K mg C_Web) {f : Addr} {s__law_node : Spd} (d__law_node : DefQ P w K mg base 1 "_law_node" s__law_node) : BodyQ P w K mg base 1 f "_law_row_wishes" st__law_row_wishes N__law_row_wishes (rd__law_row_wishes s__law_node) := fun cdv A outer s H E hr => by
  have hu := hu64 hr
  have hu5 := hu65 hr
  exact (qss_cons (qs_set (i := 3) sc__law_row_wishes.nd (q_lst qa_nil))
      (qss_cons (qs_for PassesOwn.never rfl (qi_range1 rfl T.b_range (qa_cons (qv 0) qa_nil)) (qg_name (i := 4) sc__law_row_wishes.nd) (qss_cons (qs_swap2 (i := 5) (j := 6) rfl sc__law_row_wishes.nd (q_tup (qa_cons (q_call d__law_node hr (qa_cons (qv 2) (qa_cons (q_op oq_add (qv 4) q_int) (qa_cons (qv 0) qa_nil)))) (qa_cons (q_call d__law_node hr (qa_cons (qv 2) (qa_cons (qv 4) (qa_cons (qv 0) qa_nil)))) qa_nil))))
      (qss_one (qs_set (i := 3) sc__law_row_wishes.nd (q_op oq_add (qv 3) (q_lst (qa_cons (q_tup (qa_cons (qv 5) (qa_cons (qv 6) (qa_cons q_int qa_nil)))) (qa_cons (q_tup (qa_cons (qv 6) (qa_cons (qv 5) (qa_cons q_int qa_nil)))) qa_nil))))))))
      (qss_one (qs_ret (qv 3)))))
/-! _law_knot_wishes -/
abbrev st__law_knot_wishes : Stmt := top 48
abbrev N__law_knot_wishes : List Str := ["x", "y", "wish"]
abbrev P__law_knot_wishes : List Str := ["x", "y", "wish"]
theorem sc__law_knot_wishes : FnScope N__law_knot_wishes P__law_knot_wishes (defScope st__law_knot_wishes) := ⟨rfl, rfl, rfl, by decide +kernel, rfl, by decide +kernel, by decide +kernel⟩
def rd__law_knot_wishes_1 : TSd := (qRet (qIf (qB (qBin rdEq (qVar 2) (qC (.int 1)))) (qLst (qCons (qTup (qCons (qVar 0) (qCons (qVar 1) (qCons (qNeg (qC (.int 1))) qNil)))) qNil)) (qIf (qB (qBin rdEq (qVar 2) (qC (.int 0)))) (qLst (qCons (qTup (qCons (qVar 1) (qCons (qVar 0) (qCons (qC (.int 1)) qNil)))) qNil)) (qLst qNil))))
def rd__law_knot_wishes : TSd := (qSeq (qIfS (qB (qIsi "tuple" (qVar 2))) (qRet (qLst (qCons (qTup (qCons (qVar 0) (qCons (qVar 1) (qCons (qBin rSubD (qC (.int 0)) (qCB rdSum (qCons (qVar 2) qNil))) qNil)))) (qCons (qTup (qCons (qVar 1) (qCons (qVar 0) (qCons (qCB rdSum (qCons (qVar 2) qNil)) qNil)))) qNil)))) qNext) (rd__law_knot_wishes_1))
def sp__law_knot_wishes : Spd := spB 3 3 (rd__law_knot_wishes)
theorem bd__law_knot_wishes (T : Txt K mg C_Web) {f : Addr} : BodyQ P w K mg base 0 f "_law_knot_wishes" st__law_knot_wishes N__law_knot_wishes (rd__law_knot_wishes) := fun cdv A outer s H E hr => by
  have hu := hu64 hr
  have hu5 := hu65 hr
  exact (qss_cons (qs_if (qt_val (q_isi rfl T.b_isinstance rfl T.b_tuple (by decide +kernel) (qv 2))) (qss_one (qs_ret (q_lst (qa_cons (q_tup (qa_cons (qv 0) (qa_cons (qv 1) (qa_cons (q_op oq_sub q_int (q_callB (cq_sum rfl) rfl T.b_sum (by decide +kernel) (qa_cons (qv 2) qa_nil))) qa_nil)))) (qa_cons (q_tup (qa_cons (qv 1) (qa_cons (qv 0) (qa_cons (q_callB (cq_sum rfl) rfl T.b_sum (by decide +kernel) (qa_cons (qv 2) qa_nil)) qa_nil)))) qa_nil))))) qss_nil)
      (qss_one (qs_ret (q_if (qt_cmp (oq_eq hu) (qv 2) q_int) (q_lst (qa_cons (q_tup (qa_cons (qv 0) (qa_cons (qv 1) (qa_cons (q_neg q_int) qa_nil)))) qa_nil)) (q_if (qt_cmp (oq_eq hu) (qv 2) q_int) (q_lst (qa_cons (q_tup (qa_cons (qv 1) (qa_cons (qv 0) (qa_cons q_int qa_nil)))) qa_nil)) (q_lst qa_nil))))))
/-! _law_number_of -/
abbrev st__law_number_of : Stmt := top 51
abbrev N__law_number_of : List Str := ["threads", "rows", "start", "many", "x", "y", "last", "found", "r", "s", "wish", "told", "p", "low", "high", "one", "other", "n"]
abbrev P__law_number_of : List Str := ["threads", "rows", "start", "many", "x", "y"]
theorem sc__law_number_of : FnScope N__law_number_of P__law_number_of (defScope st__law_number_of) := ⟨rfl, rfl, rfl, by decide +kernel, rfl, by decide +kernel, by decide +kernel⟩
def rd__law_number_of_1 (s__law_row_wishes : Spd) (s__law_spots : Spd) (s__law_knot_wishes : Spd) (s__law_node : Spd) : TSd := (qAsg (qBin rdAdd (qVar 7) (qLc (qSeqI (qVar 11)) (qgTup 3 (qgCons (qgName 15) (qgCons (qgName 16) (qgCons (qgName 17) qgNil)))) (qB (qBin rdEq (qTup (qCons (qVar 15) (qCons (qVar 16) qNil))) (qTup (qCons (qVar 4) (qCons (qVar 5) qNil))))) (qVar 17) [15, 16, 17])) (qgName 7))
def rd__law_number_of_2 (s__law_row_wishes : Spd) (s__law_spots : Spd) (s__law_knot_wishes : Spd) (s__law_node : Spd) : TSd := (qSeq (qAsg (qCall s__law_knot_wishes (qCons (qCall s__law_node (qCons (qVar 8) (qCons (qVar 9) (qCons (qVar 0) qNil)))) (qCons (qCall s__law_node (qCons (qVar 8) (qCons (qBin rdAdd (qVar 9) (qC (.int 2))) (qCons (qVar 0) qNil)))) (qCons (qVar 10) qNil)))) (qgName 11)) (rd__law_number_of_1 s__law_row_wishes s__law_spots s__law_knot_wishes s__law_node))
def rd__law_number_of_3 (s__law_row_wishes : Spd) (s__law_spots : Spd) (s__law_knot_wishes : Spd) (s__law_node : Spd) : TSd := (qIfS (qB (qBin rLt (qVar 8) (qVar 6))) (qFor (qZipI (qCons (qCall s__law_spots (qCons (qVar 0) (qCons (qVar 8) qNil))) (qCons (qBin rdIx (qVar 1) (qBin rMod (qCB rdToInt (qCons (qVar 8) qNil)) (qCB rdLen (qCons (qVar 1) qNil)))) qNil))) (qgTup 2 (qgCons (qgName 9) (qgCons (qgName 10) qgNil))) (rd__law_number_of_2 s__law_row_wishes s__law_spots s__law_knot_wishes s__law_node)) qNext)
def rd__law_number_of_4 (s__law_row_wishes : Spd) (s__law_spots : Spd) (s__law_knot_wishes : Spd) (s__law_node : Spd) : TSd := (qSeq (qIfS (qB (qBin rLe (qVar 8) (qVar 6))) (qAsg (qBin rdAdd (qVar 7) (qLc (qSeqI (qCall s__law_row_wishes (qCons (qVar 0) (qCons (qVar 1) (qCons (qVar 8) qNil))))) (qgTup 3 (qgCons (qgName 15) (qgCons (qgName 16) (qgCons (qgName 17) qgNil)))) (qB (qBin rdEq (qTup (qCons (qVar 15) (qCons (qVar 16) qNil))) (qTup (qCons (qVar 4) (qCons (qVar 5) qNil))))) (qVar 17) [15, 16, 17])) (qgName 7)) qNext) (rd__law_number_of_3 s__law_row_wishes s__law_spots s__law_knot_wishes s__law_node))
def rd__law_number_of_5 (s__law_row_wishes : Spd) (s__law_spots : Spd) (s__law_knot_wishes : Spd) (s__law_node : Spd) : TSd := (qAsg (qBin rdAdd (qVar 7) (qIf (qAndT (qB (qBin rdEq (qBin rdIx (qVar 2) (qVar 12)) (qC (.int 1)))) (qB (qBin rdEq (qTup (qCons (qVar 4) (qCons (qVar 5) qNil))) (qTup (qCons (qVar 13) (qCons (qVar 14) qNil)))))) (qLst (qCons (qNeg (qC (.int 1))) qNil)) (qIf (qAndT (qB (qBin rdEq (qBin rdIx (qVar 2) (qVar 12)) (qC (.int 0)))) (qB (qBin rdEq (qTup (qCons (qVar 4) (qCons (qVar 5) qNil))) (qTup (qCons (qVar 14) (qCons (qVar 13) qNil)))))) (qLst (qCons (qC (.int 0)) qNil)) (qLst qNil)))) (qgName 7))
def rd__law_number_of_6 (s__law_row_wishes : Spd) (s__law_spots : Spd) (s__law_knot_wishes : Spd) (s__law_node : Spd) : TSd := (qSeq (qSwap2 13 14 (qTup (qCons (qTup (qCons (qC (.int 0)) (qCons (qVar 12) qNil))) (qCons (qTup (qCons (qC (.int 0)) (qCons (qBin rdAdd (qVar 12) (qC (.int 1))) qNil))) qNil)))) (rd__law_number_of_5 s__law_row_wishes s__law_spots s__law_knot_wishes s__law_node))
def rd__law_number_of_7 (s__law_row_wishes : Spd) (s__law_spots : Spd) (s__law_knot_wishes : Spd) (s__law_node : Spd) : TSd := (qRet (qIf (qB (qBin rdNe (qVar 7) (qLst qNil))) (qCB (rdBest fun y m => m ≤ y) (qCons (qVar 7) qNil)) (qC .non)))
def rd__law_number_of_8 (s__law_row_wishes : Spd) (s__law_spots : Spd) (s__law_knot_wishes : Spd) (s__law_node : Spd) : TSd := (qSeq (qFor (qRng1 (qCons (qVar 0) qNil)) (qgName 12) (rd__law_number_of_6 s__law_row_wishes s__law_spots s__law_knot_wishes s__law_node)) (rd__law_number_of_7 s__law_row_wishes s__law_spots s__law_knot_wishes s__law_node))
def rd__law_number_of_9 (s__law_row_wishes : Spd) (s__law_spots : Spd) (s__law_knot_wishes : Spd) (s__law_node : Spd) : TSd := (qSeq (qFor (qSeqI (qCB rdSSet (qCons (qLst (qCons (qIxK 0 (qVar 4)) (qCons (qBin rdAdd (qIxK 0 (qVar 4)) (qC (.int 1))) (qCons (qIxK 0 (qVar 5)) (qCons (qBin rdAdd (qIxK 0 (qVar 5)) (qC (.int 1))) qNil))))) qNil))) (qgName 8) (rd__law_number_of_4 s__law_row_wishes s__law_spots s__law_knot_wishes s__law_node)) (rd__law_number_of_8 s__law_row_wishes s__law_spots s__law_knot_wishes s__law_node))
def rd__law_number_of (s__law_row_wishes : Spd) (s__law_spots : Spd) (s__law_knot_wishes : Spd) (s__law_node : Spd) : TSd := (qSeq (qSwap2 6 7 (qTup (qCons (qBin rMulA (qCB rdLen (qCons (qVar 1) qNil)) (qVar 3)) (qCons (qLst qNil) qNil)))) (rd__law_number_of_9 s__law_row_wishes s__law_spots s__law_knot_wishes s__law_node))
def sp__law_number_of : Spd := spB 18 6 (rd__law_number_of (sp__law_row_wishes) (sp__law_spots) (sp__law_knot_wishes) (sp__law_node))
theorem bd__law_number_of (T : Txt K mg C_Web) {f : Addr} {s__law_row_wishes : Spd} (d__law_row_wishes : DefQ P w K mg base 2 "_law_row_wishes" s__law_row_wishes) {s__law_spots : Spd} (d__law_spots : DefQ P w K mg base 1 "_law_spots" s__law_spots) {s__law_knot_wishes : Spd} (d__law_knot_wishes : DefQ P w K mg base 1 "_law_knot_wishes" s__law_knot_wishes) {s__law_node : Spd} (d__law_node : DefQ P w K mg base 1 "_law_node" s__law_node) : BodyQ P w K mg base 2 f "_law_number_of" st__law_number_of N__law_number_of (rd__law_number_of s__law_row_wishes s__law_spots s__law_knot_wishes s__law_node) := fun cdv A outer s H E hr => by
  have hu := hu64 hr
  have hu5 := hu65 hr
  exact (qss_cons (qs_swap2 (i := 6) (j := 7) rfl sc__law_number_of.nd (q_tup (qa_cons (q_op oq_mulA (q_callB cq_len rfl T.b_len (by decide +kernel) (qa_cons (qv 1) qa_nil)) (qv 3)) (qa_cons (q_lst qa_nil) qa_nil))))
      (qss_cons (qs_for PassesOwn.never rfl (qi_seq (q_sset rfl rfl T.b_set rfl T.b_sorted (qa_cons (q_lst (qa_cons (q_ixk (k := 0) (qv 4)) (qa_cons (q_op oq_add (q_ixk (k := 0) (qv 4)) q_int) (qa_cons (q_ixk (k := 0) (qv 5)) (qa_cons (q_op oq_add (q_ixk (k := 0) (qv 5)) q_int) qa_nil))))) qa_nil))) (qg_name (i := 8) sc__law_number_of.nd) (qss_cons (qs_if (qt_cmp oq_le (qv 8) (qv 6)) (qss_one (qs_set (i := 7) sc__law_number_of.nd (q_op oq_add (qv 7) (q_lc (own := [("one", 15), ("other", 16), ("n", 17)]) (cg_tup (cgs_cons tgm_name (tgsm_cons tgm_name (tgsm_cons tgm_name tgsm_nil)) cg_name (cgs_cons tgm_name (tgsm_cons tgm_name tgsm_nil) cg_name (cgs_cons tgm_name tgsm_nil cg_name cgs_nil)))) (tgm_tup (tgsm_cons tgm_name (tgsm_cons tgm_name (tgsm_cons tgm_name tgsm_nil)))) rfl sc__law_number_of.nd (qi_seq (q_call d__law_row_wishes hr (qa_cons (qv 0) (qa_cons (qv 1) (qa_cons (qv 8) qa_nil))))) (blkOk_by (by kernel_rfl)) (fun _ _ _ _ _ => (pg_tup rfl (pgs_cons (pg_name (i := 15) sc__law_number_of.nd rfl (by first | exact .inl rfl | exact .inr rfl)) (pgs_cons (pg_name (i := 16) sc__law_number_of.nd rfl (by first | exact .inl rfl | exact .inr rfl)) (pgs_cons (pg_name (i := 17) sc__law_number_of.nd rfl (by first | exact .inl rfl | exact .inr rfl)) pgs_nil))))) (fun _ _ _ _ _ => (qts_one (qt_cmp (oq_eq hu) (q_tup (qa_cons (qv 15) (qa_cons (qv 16) qa_nil))) (q_tup (qa_cons (qv 4) (qa_cons (qv 5) qa_nil)))))) (fun _ _ _ _ _ => (qv 17)))))) qss_nil)
      (qss_one (qs_if (qt_cmp oq_lt (qv 8) (qv 6)) (qss_one (qs_for PassesOwn.never rfl (qi_zip rfl T.b_zip (qa_cons (q_call d__law_spots hr (qa_cons (qv 0) (qa_cons (qv 8) qa_nil))) (qa_cons (q_ix (qv 1) (q_op oq_mod (q_callTy cq_int rfl T.b_int (by decide +kernel) (qa_cons (qv 8) qa_nil)) (q_callB cq_len rfl T.b_len (by decide +kernel) (qa_cons (qv 1) qa_nil)))) qa_nil))) (qg_tup rfl (qgs_cons (qg_name (i := 9) sc__law_number_of.nd) (qgs_cons (qg_name (i := 10) sc__law_number_of.nd) qgs_nil))) (qss_cons (qs_set (i := 11) sc__law_number_of.nd (q_call d__law_knot_wishes hr (qa_cons (q_call d__law_node hr (qa_cons (qv 8) (qa_cons (qv 9) (qa_cons (qv 0) qa_nil)))) (qa_cons (q_call d__law_node hr (qa_cons (qv 8) (qa_cons (q_op oq_add (qv 9) q_int) (qa_cons (qv 0) qa_nil)))) (qa_cons (qv 10) qa_nil)))))
      (qss_one (qs_set (i := 7) sc__law_number_of.nd (q_op oq_add (qv 7) (q_lc (own := [("one", 15), ("other", 16), ("n", 17)]) (cg_tup (cgs_cons tgm_name (tgsm_cons tgm_name (tgsm_cons tgm_name tgsm_nil)) cg_name (cgs_cons tgm_name (tgsm_cons tgm_name tgsm_nil) cg_name (cgs_cons tgm_name tgsm_nil cg_name cgs_nil)))) (tgm_tup (tgsm_cons tgm_name (tgsm_cons tgm_name (tgsm_cons tgm_name tgsm_nil)))) rfl sc__law_number_of.nd (qi_seq (qv 11)) (blkOk_by (by kernel_rfl)) (fun _ _ _ _ _ => (pg_tup rfl (pgs_cons (pg_name (i := 15) sc__law_number_of.nd rfl (by first | exact .inl rfl | exact .inr rfl)) (pgs_cons (pg_name (i := 16) sc__law_number_of.nd rfl (by first | exact .inl rfl | exact .inr rfl)) (pgs_cons (pg_name (i := 17) sc__law_number_of.nd rfl (by first | exact .inl rfl | exact .inr rfl)) pgs_nil))))) (fun _ _ _ _ _ => (qts_one (qt_cmp (oq_eq hu) (q_tup (qa_cons (qv 15) (qa_cons (qv 16) qa_nil))) (q_tup (qa_cons (qv 4) (qa_cons (qv 5) qa_nil)))))) (fun _ _ _ _ _ => (qv 17))))))))) qss_nil))))
      (qss_cons (qs_for PassesOwn.never rfl (qi_range1 rfl T.b_range (qa_cons (qv 0) qa_nil)) (qg_name (i := 12) sc__law_number_of.nd) (qss_cons (qs_swap2 (i := 13) (j := 14) rfl sc__law_number_of.nd (q_tup (qa_cons (q_tup (qa_cons q_int (qa_cons (qv 12) qa_nil))) (qa_cons (q_tup (qa_cons q_int (qa_cons (q_op oq_add (qv 12) q_int) qa_nil))) qa_nil))))
      (qss_one (qs_set (i := 7) sc__law_number_of.nd (q_op oq_add (qv 7) (q_if (qw_t (qw_and (qt_cmp (oq_eq hu) (q_ix (qv 2) (qv 12)) q_int) (qw_and1 (qt_cmp (oq_eq hu) (q_tup (qa_cons (qv 4) (qa_cons (qv 5) qa_nil))) (q_tup (qa_cons (qv 13) (qa_cons (qv 14) qa_nil))))))) (q_lst (qa_cons (q_neg q_int) qa_nil)) (q_if (qw_t (qw_and (qt_cmp (oq_eq hu) (q_ix (qv 2) (qv 12)) q_int) (qw_and1 (qt_cmp (oq_eq hu) (q_tup (qa_cons (qv 4) (qa_cons (qv 5) qa_nil))) (q_tup (qa_cons (qv 14) (qa_cons (qv 13) qa_nil))))))) (q_lst (qa_cons q_int qa_nil)) (q_lst qa_nil))))))))
      (qss_one (qs_ret (q_if (qt_cmp (oq_ne hu) (qv 7) (q_lst qa_nil)) (q_callB (cq_minL rfl) rfl T.b_min (by decide +kernel) (qa_cons (qv 7) qa_nil)) q_non))))))
/-! _law_is_far_ring -/
abbrev st__law_is_far_ring : Stmt := top 52
abbrev N__law_is_far_ring : List Str := ["threads", "rows", "start", "thing", "many", "line", "x", "y", "n", "one", "other", "wish"]
abbrev P__law_is_far_ring : List Str := ["threads", "rows", "start", "thing"]
theorem sc__law_is_far_ring : FnScope N__law_is_far_ring P__law_is_far_ring (defScope st__law_is_far_ring) := ⟨rfl, rfl, rfl, by decide +kernel, rfl, by decide +kernel, by decide +kernel⟩
def rd__law_is_far_ring_1 (s__law_is_int : Spd) (s__law_number_of : Spd) : TSd := (qIfS (qB (qBin rdNe (qCall s__law_number_of (qCons (qVar 0) (qCons (qVar 1) (qCons (qVar 2) (qCons (qVar 4) (qCons (qVar 6) (qCons (qVar 7) qNil))))))) (qVar 8))) (qRet (qC (.bl false))) qNext)
def rd__law_is_far_ring_2 (s__law_is_int : Spd) (s__law_number_of : Spd) : TSd := (qSeq (qIfS (qOrT (qB (qBin rdNe (qLc (qSeqI (qBin rdAdd (qVar 6) (qVar 7))) (qgName 9) (qNotT (qB (qCall s__law_is_int (qCons (qVar 9) (qCons (qC (.int 0)) (qCons (qBin rPow (qC (.int 10)) (qC (.int 6))) qNil)))))) (qVar 9) [9]) (qLst qNil))) (qNotT (qB (qCall s__law_is_int (qCons (qVar 8) (qCons (qNeg (qC (.int 99))) (qCons (qC (.int 99)) qNil))))))) (qRet (qC (.bl false))) qNext) (rd__law_is_far_ring_1 s__law_is_int s__law_number_of))
def rd__law_is_far_ring_3 (s__law_is_int : Spd) (s__law_number_of : Spd) : TSd := (qRet (qAndV (qBin rdEq (qLc (qZipI (qCons (qVar 5) (qCons (qBin rdAdd (qSl (qVar 5) (qPart (qC (.int 1))) qNoPart) (qSl (qVar 5) qNoPart (qPart (qC (.int 1))))) qNil))) (qgTup 2 (qgCons (qgName 9) (qgCons (qgName 10) qgNil))) (qB (qBin rdNe (qIxK 1 (qVar 9)) (qIxK 0 (qVar 10)))) (qC (.int 1)) [9, 10]) (qLst qNil)) (qBin rLt (qCB rdSum (qCons (qLc (qSeqI (qVar 5)) (qgName 11) qYes (qIxK 2 (qVar 11)) [11]) qNil)) (qC (.int 0)))))
def rd__law_is_far_ring_4 (s__law_is_int : Spd) (s__law_number_of : Spd) : TSd := (qSeq (qFor (qSeqI (qVar 5)) (qgTup 3 (qgCons (qgName 6) (qgCons (qgName 7) (qgCons (qgName 8) qgNil)))) (rd__law_is_far_ring_2 s__law_is_int s__law_number_of)) (rd__law_is_far_ring_3 s__law_is_int s__law_number_of))
def rd__law_is_far_ring_5 (s__law_is_int : Spd) (s__law_number_of : Spd) : TSd := (qSeq (qIfS (qOrT (qNotT (qB (qCall s__law_is_int (qCons (qVar 4) (qCons (qC (.int 1)) (qCons (qC (.int 9999)) qNil)))))) (qB (qBin rdEq (qVar 5) (qTup qNil)))) (qRet (qC (.bl false))) qNext) (rd__law_is_far_ring_4 s__law_is_int s__law_number_of))
def rd__law_is_far_ring (s__law_is_int : Spd) (s__law_number_of : Spd) : TSd := (qSeq (qSwap2 4 5 (qTup (qCons (qIxK 1 (qVar 3)) (qCons (qIxK 2 (qVar 3)) qNil)))) (rd__law_is_far_ring_5 s__law_is_int s__law_number_of))
def sp__law_is_far_ring : Spd := spB 12 4 (rd__law_is_far_ring (sp__law_is_int) (sp__law_number_of))
theorem bd__law_is_far_ring (T : Txt K mg C_Web) {f : Addr} {s__law_is_int : Spd} (d__law_is_int : DefQ P w K mg base 1 "_law_is_int" s__law_is_int) {s__law_number_of : Spd} (d__law_number_of : DefQ P w K mg base 3 "_law_number_of" s__law_number_of) : BodyQ P w K mg base 3 f "_law_is_far_ring" st__law_is_far_ring N__law_is_far_ring (rd__law_is_far_ring s__law_is_int s__law_number_of) := fun cdv A outer s H E hr => by
  have hu := hu64 hr
  have hu5 := hu65 hr
  exact (qss_cons (qs_swap2 (i := 4) (j := 5) rfl sc__law_is_far_ring.nd (q_tup (qa_cons (q_ixk (k := 1) (qv 3)) (qa_cons (q_ixk (k := 2) (qv 3)) qa_nil))))
      (qss_cons (qs_if (qw_t (qw_or (qt_not (qt_val (q_call d__law_is_int hr (qa_cons (qv 4) (qa_cons q_int (qa_cons q_int qa_nil)))))) (qw_or1 (qt_cmp (oq_eq hu) (qv 5) (q_tup qa_nil))))) (qss_one (qs_ret q_bl)) qss_nil)
      (qss_cons (qs_for PassesOwn.never rfl (qi_seq (qv 5)) (qg_tup rfl (qgs_cons (qg_name (i := 6) sc__law_is_far_ring.nd) (qgs_cons (qg_name (i := 7) sc__law_is_far_ring.nd) (qgs_cons (qg_name (i := 8) sc__law_is_far_ring.nd) qgs_nil)))) (qss_cons (qs_if (qw_t (qw_or (qt_cmp (oq_ne hu) (q_lc (own := [("one", 9)]) cg_name tgm_name rfl sc__law_is_far_ring.nd (qi_seq (q_op oq_add (qv 6) (qv 7))) (blkOk_by (by kernel_rfl)) (fun _ _ _ _ _ => (pg_name (i := 9) sc__law_is_far_ring.nd rfl (by first | exact .inl rfl | exact .inr rfl))) (fun _ _ _ _ _ => (qts_one (qt_not (qt_val (q_call d__law_is_int hr (qa_cons (qv 9) (qa_cons q_int (qa_cons (q_op oq_pow q_int q_int) qa_nil)))))))) (fun _ _ _ _ _ => (qv 9))) (q_lst qa_nil)) (qw_or1 (qt_not (qt_val (q_call d__law_is_int hr (qa_cons (qv 8) (qa_cons (q_neg q_int) (qa_cons q_int qa_nil))))))))) (qss_one (qs_ret q_bl)) qss_nil)
      (qss_one (qs_if (qt_cmp (oq_ne hu) (q_call d__law_number_of hr (qa_cons (qv 0) (qa_cons (qv 1) (qa_cons (qv 2) (qa_cons (qv 4) (qa_cons (qv 6) (qa_cons (qv 7) qa_nil))))))) (qv 8)) (qss_one (qs_ret q_bl)) qss_nil))))
      (qss_one (qs_ret (q_and (q_cmp (oq_eq hu) (q_lc (own := [("one", 9), ("other", 10)]) (cg_tup (cgs_cons tgm_name (tgsm_cons tgm_name tgsm_nil) cg_name (cgs_cons tgm_name tgsm_nil cg_name cgs_nil))) (tgm_tup (tgsm_cons tgm_name (tgsm_cons tgm_name tgsm_nil))) rfl sc__law_is_far_ring.nd (qi_zip rfl T.b_zip (qa_cons (qv 5) (qa_cons (q_op oq_add (q_slice (qv 5) (qo_some q_int) qo_none) (q_slice (qv 5) qo_none (qo_some q_int))) qa_nil))) (blkOk_by (by kernel_rfl)) (fun _ _ _ _ _ => (pg_tup rfl (pgs_cons (pg_name (i := 9) sc__law_is_far_ring.nd rfl (by first | exact .inl rfl | exact .inr rfl)) (pgs_cons (pg_name (i := 10) sc__law_is_far_ring.nd rfl (by first | exact .inl rfl | exact .inr rfl)) pgs_nil)))) (fun _ _ _ _ _ => (qts_one (qt_cmp (oq_ne hu) (q_ixk (k := 1) (qv 9)) (q_ixk (k := 0) (qv 10))))) (fun _ _ _ _ _ => q_int)) (q_lst qa_nil)) (q_one (q_cmp oq_lt (q_callB (cq_sum rfl) rfl T.b_sum (by decide +kernel) (qa_cons (q_lc (own := [("wish", 11)]) cg_name tgm_name rfl sc__law_is_far_ring.nd (qi_seq (qv 5)) (blkOk_by (by kernel_rfl)) (fun _ _ _ _ _ => (pg_name (i := 11) sc__law_is_far_ring.nd rfl (by first | exact .inl rfl | exact .inr rfl))) (fun _ _ _ _ _ => qts_nil) (fun _ _ _ _ _ => (q_ixk (k := 2) (qv 11)))) qa_nil)) q_int))))))))
/-! _law_says -/
abbrev st__law_says : Stmt := top 45
abbrev N__law_says : List Str := ["told", "due"]
abbrev P__law_says : List Str := ["told", "due"]
theorem sc__law_says : FnScope N__law_says P__law_says (defScope st__law_says) := ⟨rfl, rfl, rfl, by decide +kernel, rfl, by decide +kernel, by decide +kernel⟩
def rd__law_says : TSd := (qRet (qAndV (qIsi "bool" (qVar 0)) (qBin rdEq (qVar 0) (qVar 1))))
def sp__law_says : Spd := spB 2 2 (rd__law_says)
theorem bd__law_says (T : Txt K mg C_Web) {f : Addr} : BodyQ P w K mg base 0 f "_law_says" st__law_says N__law_says (rd__law_says) := fun cdv A outer s H E hr => by
  have hu := hu64 hr
  have hu5 := hu65 hr
  exact (qss_one (qs_ret (q_and (q_isi rfl T.b_isinstance rfl T.b_bool (by decide +kernel) (qv 0)) (q_one (q_cmp (oq_eq hu) (qv 0) (qv 1))))))
/-! spots_of -/
abbrev st_spots_of : Stmt := top 9
abbrev N_spots_of : List Str := ["threads", "row"]
abbrev P_spots_of : List Str := ["threads", "row"]
theorem sc_spots_of : FnScope N_spots_of P_spots_of (defScope st_spots_of) := ⟨rfl, rfl, rfl, by decide +kernel, rfl, by decide +kernel, by decide +kernel⟩
def rd_spots_of : TSd := (qRet (qListR (qRg3 (qCons (qBin rSubD (qVar 1) (qBin rMulA (qBin rFdiv (qVar 1) (qC (.int 2))) (qC (.int 2)))) (qCons (qBin rSubD (qVar 0) (qC (.int 1))) (qCons (qC (.int 2)) qNil))))))
def sp_spots_of : Spd := spB 2 2 (rd_spots_of)
theorem bd_spots_of (T : Txt K mg C_Web) {f : Addr} : BodyQ P w K mg base 0 f "spots_of" st_spots_of N_spots_of (rd_spots_of) := fun cdv A outer s H E hr => by
  have hu := hu64 hr
  have hu5 := hu65 hr
  exact (qss_one (qs_ret (q_listR rfl rfl T.b_list (rgx3 rfl T.b_range (qa_cons (q_op oq_sub (qv 1) (q_op oq_mulA (q_op oq_fdiv (qv 1) q_int) q_int)) (qa_cons (q_op oq_sub (qv 0) q_int) (qa_cons q_int qa_nil)))))))
/-! are_rows_of -/
abbrev st_are_rows_of : Stmt := top 10
abbrev N_are_rows_of : List Str := ["threads", "thing", "number", "row"]
abbrev P_are_rows_of : List Str := ["threads", "thing"]
theorem sc_are_rows_of : FnScope N_are_rows_of P_are_rows_of (defScope st_are_rows_of) := ⟨rfl, rfl, rfl, by decide +kernel, rfl, by decide +kernel, by decide +kernel⟩
def rd_are_rows_of_1 (s_spots_of : Spd) : TSd := (qRet (qC (.bl true)))
def rd_are_rows_of_2 (s_spots_of : Spd) : TSd := (qSeq (qFor (qEnumI (qCons (qVar 1) qNil)) (qgTup 2 (qgCons (qgName 2) (qgCons (qgName 3) qgNil))) (qIfS (qOrT (qNotT (qB (qIsi "tuple" (qVar 3)))) (qB (qBin rdNe (qCB rdLen (qCons (qVar 3) qNil)) (qCB rdLen (qCons (qCall s_spots_of (qCons (qVar 0) (qCons (qVar 2) qNil))) qNil))))) (qRet (qC (.bl false))) qNext)) (rd_are_rows_of_1 s_spots_of))
def rd_are_rows_of (s_spots_of : Spd) : TSd := (qSeq (qIfS (qOrT (qNotT (qB (qIsi "tuple" (qVar 1)))) (qB (qBin rGt (qCB rdLen (qCons (qVar 1) qNil)) (qC gd_MOST_ROWS)))) (qRet (qC (.bl false))) qNext) (rd_are_rows_of_2 s_spots_of))
def sp_are_rows_of : Spd := spB 4 2 (rd_are_rows_of (sp_spots_of))
theorem bd_are_rows_of (T : Txt K mg C_Web) {f : Addr} {s_spots_of : Spd} (d_spots_of : DefQ P w K mg base 1 "spots_of" s_spots_of) : BodyQ P w K mg base 1 f "are_rows_of" st_are_rows_of N_are_rows_of (rd_are_rows_of s_spots_of) := fun cdv A outer s H E hr => by
  have hu := hu64 hr
  have hu5 := hu65 hr
  exact (qss_cons (qs_if (qw_t (qw_or (qt_not (qt_val (q_isi rfl T.b_isinstance rfl T.b_tuple (by decide +kernel) (qv 1)))) (qw_or1 (qt_cmp oq_gt (q_callB cq_len rfl T.b_len (by decide +kernel) (qa_cons (qv 1) qa_nil)) (q_globE rfl T.g_MOST_ROWS))))) (qss_one (qs_ret q_bl)) qss_nil)
      (qss_cons (qs_for PassesOwn.never rfl (qi_enum rfl T.b_enumerate (qa_cons (qv 1) qa_nil)) (qg_tup rfl (qgs_cons (qg_name (i := 2) sc_are_rows_of.nd) (qgs_cons (qg_name (i := 3) sc_are_rows_of.nd) qgs_nil))) (qss_one (qs_if (qw_t (qw_or (qt_not (qt_val (q_isi rfl T.b_isinstance rfl T.b_tuple (by decide +kernel) (qv 3)))) (qw_or1 (qt_cmp (oq_ne hu) (q_callB cq_len rfl T.b_len (by decide +kernel) (qa_cons (qv 3) qa_nil)) (q_callB cq_len rfl T.b_len (by decide +kernel) (qa_cons (q_call d_spots_of hr (qa_cons (qv 0) (qa_cons (qv 2) qa_nil))) qa_nil)))))) (qss_one (qs_ret q_bl)) qss_nil)))
      (qss_one (qs_ret q_bl))))
/-! is_number -/
abbrev st_is_number : Stmt := top 5
abbrev N_is_number : List Str := ["thing", "low", "high"]
abbrev P_is_number : List Str := ["thing", "low", "high"]
theorem sc_is_number : FnScope N_is_number P_is_number (defScope st_is_number) := ⟨rfl, rfl, rfl, by decide +kernel, rfl, by decide +kernel, by decide +kernel⟩
def rd_is_number : TSd := (qRet (qAndV (qIsi "int" (qVar 0)) (qAndV (qNotV (qIsi "bool" (qVar 0))) (qChain rLe rLe (qVar 1) (qVar 0) (qVar 2)))))
def sp_is_number : Spd := spB 3 3 (rd_is_number)
theorem bd_is_number (T : Txt K mg C_Web) {f : Addr} : BodyQ P w K mg base 0 f "is_number" st_is_number N_is_number (rd_is_number) := fun cdv A outer s H E hr => by
  have hu := hu64 hr
  have hu5 := hu65 hr
  exact (qss_one (qs_ret (q_and (q_isi rfl T.b_isinstance rfl T.b_int (by decide +kernel) (qv 0)) (q_and (q_not (q_isi rfl T.b_isinstance rfl T.b_bool (by decide +kernel) (qv 0))) (q_one (q_chain oq_le oq_le (qv 1) (qv 0) (qv 2)))))))
/-! is_wish -/
abbrev st_is_wish : Stmt := top 13
abbrev N_is_wish : List Str := ["thing"]
abbrev P_is_wish : List Str := ["thing"]
theorem sc_is_wish : FnScope N_is_wish P_is_wish (defScope st_is_wish) := ⟨rfl, rfl, rfl, by decide +kernel, rfl, by decide +kernel, by decide +kernel⟩
def rd_is_wish (s_is_number : Spd) : TSd := (qRet (qOrV (qBin (rdIsN id) (qVar 0) (qC .non)) (qCall s_is_number (qCons (qVar 0) (qCons (qC (.int 0)) (qCons (qC (.int 1)) qNil))))))
def sp_is_wish : Spd := spB 1 1 (rd_is_wish (sp_is_number))
theorem bd_is_wish (T : Txt K mg C_Web) {f : Addr} {s_is_number : Spd} (d_is_number : DefQ P w K mg base 1 "is_number" s_is_number) : BodyQ P w K mg base 1 f "is_wish" st_is_wish N_is_wish (rd_is_wish s_is_number) := fun cdv A outer s H E hr => by
  have hu := hu64 hr
  have hu5 := hu65 hr
  exact (qss_one (qs_ret (q_or (q_cmp oq_isN (qv 0) q_non) (q_one (q_call d_is_number hr (qa_cons (qv 0) (qa_cons q_int (qa_cons q_int qa_nil))))))))
/-! is_knot_wish -/
abbrev st_is_knot_wish : Stmt := top 14
abbrev N_is_knot_wish : List Str := ["thing", "item"]
abbrev P_is_knot_wish : List Str := ["thing"]
theorem sc_is_knot_wish : FnScope N_is_knot_wish P_is_knot_wish (defScope st_is_knot_wish) := ⟨rfl, rfl, rfl, by decide +kernel, rfl, by decide +kernel, by decide +kernel⟩
def rd_is_knot_wish_1 (s_is_wish : Spd) (s_is_number : Spd) : TSd := (qRet (qAndV (qBin rdEq (qCB rdLen (qCons (qVar 0) qNil)) (qC (.int 2))) (qAndV (qCB (rdBs fun bs => bs.all id) (qCons (qLc (qSeqI (qVar 0)) (qgName 1) qYes (qCall s_is_number (qCons (qVar 1) (qCons (qC (.int 0)) (qCons (qC (.int 1)) qNil)))) [1]) qNil)) (qBin (rdInTup id) (qVar 0) (qC gd_PAIRS)))))
def rd_is_knot_wish (s_is_wish : Spd) (s_is_number : Spd) : TSd := (qSeq (qIfS (qNotT (qB (qIsi "tuple" (qVar 0)))) (qRet (qCall s_is_wish (qCons (qVar 0) qNil))) qNext) (rd_is_knot_wish_1 s_is_wish s_is_number))
def sp_is_knot_wish : Spd := spB 2 1 (rd_is_knot_wish (sp_is_wish) (sp_is_number))
theorem bd_is_knot_wish (T : Txt K mg C_Web) {f : Addr} {s_is_wish : Spd} (d_is_wish : DefQ P w K mg base 2 "is_wish" s_is_wish) {s_is_number : Spd} (d_is_number : DefQ P w K mg base 1 "is_number" s_is_number) : BodyQ P w K mg base 2 f "is_knot_wish" st_is_knot_wish N_is_knot_wish (rd_is_knot_wish s_is_wish s_is_number) := fun cdv A outer s H E hr => by
  have hu := hu64 hr
  have hu5 := hu65 hr
  exact (qss_cons (qs_if (qt_not (qt_val (q_isi rfl T.b_isinstance rfl T.b_tuple (by decide +kernel) (qv 0)))) (qss_one (qs_ret (q_call d_is_wish hr (qa_cons (qv 0) qa_nil)))) qss_nil)
      (qss_one (qs_ret (q_and (q_cmp (oq_eq hu) (q_callB cq_len rfl T.b_len (by decide +kernel) (qa_cons (qv 0) qa_nil)) q_int) (q_and (q_callB (cq_all rfl) rfl T.b_all (by decide +kernel) (qa_cons (q_lc (own := [("item", 1)]) cg_name tgm_name rfl sc_is_knot_wish.nd (qi_seq (qv 0)) (blkOk_by (by kernel_rfl)) (fun _ _ _ _ _ => (pg_name (i := 1) sc_is_knot_wish.nd rfl (by first | exact .inl rfl | exact .inr rfl))) (fun _ _ _ _ _ => qts_nil) (fun _ _ _ _ _ => (q_call d_is_number hr (qa_cons (qv 1) (qa_cons q_int (qa_cons q_int qa_nil)))))) qa_nil)) (q_one (q_cmp (hm := by rfl) (oq_inT hu5) (qv 0) (q_globE rfl T.g_PAIRS))))))))
/-! is_motif -/
abbrev st_is_motif : Stmt := top 20
abbrev N_is_motif : List Str := ["thing", "row", "item"]
abbrev P_is_motif : List Str := ["thing"]
theorem sc_is_motif : FnScope N_is_motif P_is_motif (defScope st_is_motif) := ⟨rfl, rfl, rfl, by decide +kernel, rfl, by decide +kernel, by decide +kernel⟩
def rd_is_motif_1 (s_are_rows_of : Spd) (s_is_number : Spd) (s_is_knot_wish : Spd) : TSd := (qRet (qCB (rdBs fun bs => bs.all id) (qCons (qLc2 (qSeqI (qIxK 2 (qVar 0))) (qgName 1) qYes (qSeqI (qVar 1)) (qgName 2) qYes (qCall s_is_knot_wish (qCons (qVar 2) qNil)) [1, 2] [2]) qNil)))
def rd_is_motif_2 (s_are_rows_of : Spd) (s_is_number : Spd) (s_is_knot_wish : Spd) : TSd := (qSeq (qIfS (qOrT (qB (qBin rdEq (qIxK 2 (qVar 0)) (qTup qNil))) (qB (qBin rdNe (qBin rMulA (qBin rFdiv (qCB rdLen (qCons (qIxK 2 (qVar 0)) qNil)) (qC (.int 2))) (qC (.int 2))) (qCB rdLen (qCons (qIxK 2 (qVar 0)) qNil))))) (qRet (qC (.bl false))) qNext) (rd_is_motif_1 s_are_rows_of s_is_number s_is_knot_wish))
def rd_is_motif_3 (s_are_rows_of : Spd) (s_is_number : Spd) (s_is_knot_wish : Spd) : TSd := (qSeq (qIfS (qOrT (qNotT (qB (qCall s_is_number (qCons (qIxK 1 (qVar 0)) (qCons (qC (.int 2)) (qCons (qC gd_MOST_THREADS) qNil)))))) (qNotT (qB (qCall s_are_rows_of (qCons (qIxK 1 (qVar 0)) (qCons (qIxK 2 (qVar 0)) qNil)))))) (qRet (qC (.bl false))) qNext) (rd_is_motif_2 s_are_rows_of s_is_number s_is_knot_wish))
def rd_is_motif (s_are_rows_of : Spd) (s_is_number : Spd) (s_is_knot_wish : Spd) : TSd := (qSeq (qIfS (qOrT (qNotT (qB (qIsi "tuple" (qVar 0)))) (qOrT (qB (qBin rdNe (qCB rdLen (qCons (qVar 0) qNil)) (qC (.int 3)))) (qB (qBin rdNe (qIxK 0 (qVar 0)) (qC (.str "motif")))))) (qRet (qC (.bl false))) qNext) (rd_is_motif_3 s_are_rows_of s_is_number s_is_knot_wish))
def sp_is_motif : Spd := spB 3 1 (rd_is_motif (sp_are_rows_of) (sp_is_number) (sp_is_knot_wish))
theorem bd_is_motif (T : Txt K mg C_Web) {f : Addr} {s_are_rows_of : Spd} (d_are_rows_of : DefQ P w K mg base 2 "are_rows_of" s_are_rows_of) {s_is_number : Spd} (d_is_number : DefQ P w K mg base 1 "is_number" s_is_number) {s_is_knot_wish : Spd} (d_is_knot_wish : DefQ P w K mg base 3 "is_knot_wish" s_is_knot_wish) : BodyQ P w K mg base 3 f "is_motif" st_is_motif N_is_motif (rd_is_motif s_are_rows_of s_is_number s_is_knot_wish) := fun cdv A outer s H E hr => by
  have hu := hu64 hr
  have hu5 := hu65 hr
  exact (qss_cons (qs_if (qw_t (qw_or (qt_not (qt_val (q_isi rfl T.b_isinstance rfl T.b_tuple (by decide +kernel) (qv 0)))) (qw_or (qt_cmp (oq_ne hu) (q_callB cq_len rfl T.b_len (by decide +kernel) (qa_cons (qv 0) qa_nil)) q_int) (qw_or1 (qt_cmp (oq_ne hu) (q_ixk (k := 0) (qv 0)) q_str))))) (qss_one (qs_ret q_bl)) qss_nil)
      (qss_cons (qs_if (qw_t (qw_or (qt_not (qt_val (q_call d_is_number hr (qa_cons (q_ixk (k := 1) (qv 0)) (qa_cons q_int (qa_cons (q_globE rfl T.g_MOST_THREADS) qa_nil)))))) (qw_or1 (qt_not (qt_val (q_call d_are_rows_of hr (qa_cons (q_ixk (k := 1) (qv 0)) (qa_cons (q_ixk (k := 2) (qv 0)) qa_nil)))))))) (qss_one (qs_ret q_bl)) qss_nil)
      (qss_cons (qs_if (qw_t (qw_or (qt_cmp (oq_eq hu) (q_ixk (k := 2) (qv 0)) (q_tup qa_nil)) (qw_or1 (qt_cmp (oq_ne hu) (q_op oq_mulA (q_op oq_fdiv (q_callB cq_len rfl T.b_len (by decide +kernel) (qa_cons (q_ixk (k := 2) (qv 0)) qa_nil)) q_int) q_int) (q_callB cq_len rfl T.b_len (by decide +kernel) (qa_cons (q_ixk (k := 2) (qv 0)) qa_nil)))))) (qss_one (qs_ret q_bl)) qss_nil)
      (qss_one (qs_ret (q_callB (cq_all rfl) rfl T.b_all (by decide +kernel) (qa_cons (q_lc2 (own := [("row", 1), ("item", 2)]) (vs1 := [2]) cg_name tgm_name cg_name tgm_name (by decide) rfl sc_is_motif.nd (qi_seq (q_ixk (k := 2) (qv 0))) (blkOk_by (by kernel_rfl)) (fun _ _ _ _ _ => (pg_name (i := 1) sc_is_motif.nd rfl (by first | exact .inl rfl | exact .inr rfl))) (fun _ _ _ _ _ => qts_nil) (fun _ _ _ _ _ => (qi_seq (qv 1))) (fun _ _ _ _ _ => (pg_name (i := 2) sc_is_motif.nd rfl (by first | exact .inl rfl | exact .inr rfl))) (fun _ _ _ _ _ => qts_nil) (fun _ _ _ _ _ => (q_call d_is_knot_wish hr (qa_cons (qv 2) qa_nil)))) qa_nil)))))))
/-! need_motif -/
abbrev st_need_motif : Stmt := top 21
abbrev N_need_motif : List Str := ["motif"]
abbrev P_need_motif : List Str := ["motif"]
theorem sc_need_motif : FnScope N_need_motif P_need_motif (defScope st_need_motif) := ⟨rfl, rfl, rfl, by decide +kernel, rfl, by decide +kernel, by decide +kernel⟩
def rd_need_motif (s_is_motif : Spd) : TSd := (qIfS (qNotT (qB (qCall s_is_motif (qCons (qVar 0) qNil)))) qNever qNext)
def sp_need_motif : Spd := spB 1 1 (rd_need_motif (sp_is_motif))
theorem bd_need_motif (T : Txt K mg C_Web) {f : Addr} {s_is_motif : Spd} (d_is_motif : DefQ P w K mg base 4 "is_motif" s_is_motif) : BodyQ P w K mg base 4 f "need_motif" st_need_motif N_need_motif (rd_need_motif s_is_motif) := fun cdv A outer s H E hr => by
  have hu := hu64 hr
  have hu5 := hu65 hr
  exact (qss_one (qs_if (qt_not (qt_val (q_call d_is_motif hr (qa_cons (qv 0) qa_nil)))) qss_never qss_nil))
/-! need_start -/
abbrev st_need_start : Stmt := top 24
abbrev N_need_start : List Str := ["motif", "start", "item"]
abbrev P_need_start : List Str := ["motif", "start"]
theorem sc_need_start : FnScope N_need_start P_need_start (defScope st_need_start) := ⟨rfl, rfl, rfl, by decide +kernel, rfl, by decide +kernel, by decide +kernel⟩
def rd_need_start (s_is_number : Spd) : TSd := (qIfS (qOrT (qNotT (qB (qIsi "tuple" (qVar 1)))) (qOrT (qB (qBin rdNe (qCB rdLen (qCons (qVar 1) qNil)) (qIxK 1 (qVar 0)))) (qNotT (qB (qCB (rdBs fun bs => bs.all id) (qCons (qLc (qSeqI (qVar 1)) (qgName 2) qYes (qCall s_is_number (qCons (qVar 2) (qCons (qC (.int 0)) (qCons (qC (.int 1)) qNil)))) [2]) qNil)))))) qNever qNext)
def sp_need_start : Spd := spB 3 2 (rd_need_start (sp_is_number))
theorem bd_need_start (T : Txt K mg C_Web) {f : Addr} {s_is_number : Spd} (d_is_number : DefQ P w K mg base 1 "is_number" s_is_number) : BodyQ P w K mg base 1 f "need_start" st_need_start N_need_start (rd_need_start s_is_number) := fun cdv A outer s H E hr => by
  have hu := hu64 hr
  have hu5 := hu65 hr
  exact (qss_one (qs_if (qw_t (qw_or (qt_not (qt_val (q_isi rfl T.b_isinstance rfl T.b_tuple (by decide +kernel) (qv 1)))) (qw_or (qt_cmp (oq_ne hu) (q_callB cq_len rfl T.b_len (by decide +kernel) (qa_cons (qv 1) qa_nil)) (q_ixk (k := 1) (qv 0))) (qw_or1 (qt_not (qt_val (q_callB (cq_all rfl) rfl T.b_all (by decide +kernel) (qa_cons (q_lc (own := [("item", 2)]) cg_name tgm_name rfl sc_need_start.nd (qi_seq (qv 1)) (blkOk_by (by kernel_rfl)) (fun _ _ _ _ _ => (pg_name (i := 2) sc_need_start.nd rfl (by first | exact .inl rfl | exact .inr rfl))) (fun _ _ _ _ _ => qts_nil) (fun _ _ _ _ _ => (q_call d_is_number hr (qa_cons (qv 2) (qa_cons q_int (qa_cons q_int qa_nil)))))) qa_nil)))))))) qss_never qss_nil))
/-! is_wish_form -/
abbrev st_is_wish_form : Stmt := top 34
abbrev N_is_wish_form : List Str := ["motif", "many", "thing", "height"]
abbrev P_is_wish_form : List Str := ["motif", "many", "thing"]
theorem sc_is_wish_form : FnScope N_is_wish_form P_is_wish_form (defScope st_is_wish_form) := ⟨rfl, rfl, rfl, by decide +kernel, rfl, by decide +kernel, by decide +kernel⟩
def rd_is_wish_form_1 (s_is_number : Spd) : TSd := (qIfS (qNotT (qB (qCall s_is_number (qCons (qIxK 0 (qVar 3)) (qCons (qC (.int 0)) (qCons (qBin rMulA (qVar 1) (qCB rdLen (qCons (qIxK 2 (qVar 0)) qNil))) qNil)))))) (qRet (qC (.bl false))) qNext)
def rd_is_wish_form_2 (s_is_number : Spd) : TSd := (qSeq (qIfS (qOrT (qNotT (qB (qIsi "tuple" (qVar 3)))) (qOrT (qB (qBin rdNe (qCB rdLen (qCons (qVar 3) qNil)) (qC (.int 2)))) (qNotT (qB (qCall s_is_number (qCons (qIxK 1 (qVar 3)) (qCons (qC (.int 0)) (qCons (qIxK 1 (qVar 0)) qNil)))))))) (qRet (qC (.bl false))) qNext) (rd_is_wish_form_1 s_is_number))
def rd_is_wish_form_3 (s_is_number : Spd) : TSd := (qRet (qC (.bl true)))
def rd_is_wish_form_4 (s_is_number : Spd) : TSd := (qSeq (qFor (qSeqI (qSl (qVar 2) qNoPart (qPart (qC (.int 2))))) (qgName 3) (rd_is_wish_form_2 s_is_number)) (rd_is_wish_form_3 s_is_number))
def rd_is_wish_form (s_is_number : Spd) : TSd := (qSeq (qIfS (qOrT (qNotT (qB (qIsi "tuple" (qVar 2)))) (qOrT (qB (qBin rdNe (qCB rdLen (qCons (qVar 2) qNil)) (qC (.int 3)))) (qNotT (qB (qCall s_is_number (qCons (qIxK 2 (qVar 2)) (qCons (qNeg (qC (.int 99))) (qCons (qC (.int 99)) qNil)))))))) (qRet (qC (.bl false))) qNext) (rd_is_wish_form_4 s_is_number))
def sp_is_wish_form : Spd := spB 4 3 (rd_is_wish_form (sp_is_number))
theorem bd_is_wish_form (T : Txt K mg C_Web) {f : Addr} {s_is_number : Spd} (d_is_number : DefQ P w K mg base 1 "is_number" s_is_number) : BodyQ P w K mg base 1 f "is_wish_form" st_is_wish_form N_is_wish_form (rd_is_wish_form s_is_number) := fun cdv A outer s H E hr => by
  have hu := hu64 hr
  have hu5 := hu65 hr
  exact (qss_cons (qs_if (qw_t (qw_or (qt_not (qt_val (q_isi rfl T.b_isinstance rfl T.b_tuple (by decide +kernel) (qv 2)))) (qw_or (qt_cmp (oq_ne hu) (q_callB cq_len rfl T.b_len (by decide +kernel) (qa_cons (qv 2) qa_nil)) q_int) (qw_or1 (qt_not (qt_val (q_call d_is_number hr (qa_cons (q_ixk (k := 2) (qv 2)) (qa_cons (q_neg q_int) (qa_cons q_int qa_nil)))))))))) (qss_one (qs_ret q_bl)) qss_nil)
      (qss_cons (qs_for PassesOwn.never rfl (qi_seq (q_slice (qv 2) qo_none (qo_some q_int))) (qg_name (i := 3) sc_is_wish_form.nd) (qss_cons (qs_if (qw_t (qw_or (qt_not (qt_val (q_isi rfl T.b_isinstance rfl T.b_tuple (by decide +kernel) (qv 3)))) (qw_or (qt_cmp (oq_ne hu) (q_callB cq_len rfl T.b_len (by decide +kernel) (qa_cons (qv 3) qa_nil)) q_int) (qw_or1 (qt_not (qt_val (q_call d_is_number hr (qa_cons (q_ixk (k := 1) (qv 3)) (qa_cons q_int (qa_cons (q_ixk (k := 1) (qv 0)) qa_nil)))))))))) (qss_one (qs_ret q_bl)) qss_nil)
      (qss_one (qs_if (qt_not (qt_val (q_call d_is_number hr (qa_cons (q_ixk (k := 0) (qv 3)) (qa_cons q_int (qa_cons (q_op oq_mulA (qv 1) (q_callB cq_len rfl T.b_len (by decide +kernel) (qa_cons (q_ixk (k := 2) (qv 0)) qa_nil))) qa_nil)))))) (qss_one (qs_ret q_bl)) qss_nil))))
      (qss_one (qs_ret q_bl))))
/-! Web.tell -/
abbrev st_Web_tell : Stmt := inClass (top 17) 2
abbrev N_Web_tell : List Str := ["self", "one", "other", "number"]
abbrev P_Web_tell : List Str := ["self", "one", "other", "number"]
theorem sc_Web_tell : FnScope N_Web_tell P_Web_tell (defScope st_Web_tell) := ⟨rfl, rfl, rfl, by decide +kernel, rfl, by decide +kernel, by decide +kernel⟩
def rd_Web_tell (C_Web : Addr) : TSd := (qIfS (qOrT (qAndT (qB (qBin rdNe (qVar 1) (qVar 2))) (qB (qBin (rdTIn not) (qTup (qCons (qVar 1) (qCons (qVar 2) qNil))) (qFld C_Web "told" (qVar 0))))) (qB (qBin rGt (qTGet2 (qFld C_Web "told" (qVar 0)) (qTup (qCons (qVar 1) (qCons (qVar 2) qNil))) (qVar 3)) (qVar 3)))) (qTPut (qFld C_Web "told" (qVar 0)) (qTup (qCons (qVar 1) (qCons (qVar 2) qNil))) (qVar 3)) qNext)
def sp_Web_tell (C_Web : Addr) : Spd := spB 4 4 (rd_Web_tell C_Web)
theorem bd_Web_tell (T : Txt K mg C_Web) {f : Addr} : BodyQ P w K mg base 0 f "Web.tell" st_Web_tell N_Web_tell (rd_Web_tell C_Web) := fun cdv A outer s H E hr => by
  have hu := hu64 hr
  have hu5 := hu65 hr
  exact (qss_one (qs_if (qw_t (qw_or (qw_t (qw_and (qt_cmp (oq_ne hu) (qv 1) (qv 2)) (qw_and1 (qt_cmp (hm := by rfl) (oq_tnin hu) (q_tup (qa_cons (qv 1) (qa_cons (qv 2) qa_nil))) (q_fld T.cl_Web T.n_Web_told (qv 0)))))) (qw_or1 (qt_cmp oq_gt (q_tget2 hu (q_fld T.cl_Web T.n_Web_told (qv 0)) (q_tup (qa_cons (qv 1) (qa_cons (qv 2) qa_nil))) (qv 3)) (qv 3))))) (qss_one (qs_tput hu (q_fld T.cl_Web T.n_Web_told (qv 0)) (q_tup (qa_cons (qv 1) (qa_cons (qv 2) qa_nil))) (qv 3))) qss_nil))
/-! node -/
abbrev st_node : Stmt := top 16
abbrev N_node : List Str := ["row", "cut", "threads"]
abbrev P_node : List Str := ["row", "cut", "threads"]
theorem sc_node : FnScope N_node P_node (defScope st_node) := ⟨rfl, rfl, rfl, by decide +kernel, rfl, by decide +kernel, by decide +kernel⟩
def rd_node_1 : TSd := (qRet (qIf (qB (qBin rdEq (qBin rMulA (qBin rFdiv (qBin rSubD (qVar 0) (qVar 1)) (qC (.int 2))) (qC (.int 2))) (qBin rSubD (qVar 0) (qVar 1)))) (qTup (qCons (qVar 0) (qCons (qVar 1) qNil))) (qTup (qCons (qBin rSubD (qVar 0) (qC (.int 1))) (qCons (qVar 1) qNil)))))
def rd_node : TSd := (qSeq (qIfS (qOrT (qB (qBin (rdInTup id) (qVar 1) (qTup (qCons (qC (.int 0)) (qCons (qVar 2) qNil))))) (qB (qBin rdEq (qVar 0) (qC (.int 0))))) (qRet (qTup (qCons (qC (.int 0)) (qCons (qVar 1) qNil)))) qNext) (rd_node_1))
def sp_node : Spd := spB 3 3 (rd_node)
theorem bd_node (T : Txt K mg C_Web) {f : Addr} : BodyQ P w K mg base 0 f "node" st_node N_node (rd_node) := fun cdv A outer s H E hr => by
  have hu := hu64 hr
  have hu5 := hu65 hr
  exact (qss_cons (qs_if (qw_t (qw_or (qt_cmp (hm := by rfl) (oq_inT hu5) (qv 1) (q_tup (qa_cons q_int (qa_cons (qv 2) qa_nil)))) (qw_or1 (qt_cmp (oq_eq hu) (qv 0) q_int)))) (qss_one (qs_ret (q_tup (qa_cons q_int (qa_cons (qv 1) qa_nil))))) qss_nil)
      (qss_one (qs_ret (q_if (qt_cmp (oq_eq hu) (q_op oq_mulA (q_op oq_fdiv (q_op oq_sub (qv 0) (qv 1)) q_int) q_int) (q_op oq_sub (qv 0) (qv 1))) (q_tup (qa_cons (qv 0) (qa_cons (qv 1) qa_nil))) (q_tup (qa_cons (q_op oq_sub (qv 0) q_int) (qa_cons (qv 1) qa_nil)))))))
/-! Web.at -/
abbrev st_Web_at : Stmt := inClass (top 17) 1
abbrev N_Web_at : List Str := ["self", "row", "cut"]
abbrev P_Web_at : List Str := ["self", "row", "cut"]
theorem sc_Web_at : FnScope N_Web_at P_Web_at (defScope st_Web_at) := ⟨rfl, rfl, rfl, by decide +kernel, rfl, by decide +kernel, by decide +kernel⟩
def rd_Web_at (C_Web : Addr) (s_node : Spd) : TSd := (qRet (qCall s_node (qCons (qVar 1) (qCons (qVar 2) (qCons (qFld C_Web "threads" (qVar 0)) qNil)))))
def sp_Web_at (C_Web : Addr) : Spd := spB 3 3 (rd_Web_at C_Web (sp_node))
theorem bd_Web_at (T : Txt K mg C_Web) {f : Addr} {s_node : Spd} (d_node : DefQ P w K mg base 1 "node" s_node) : BodyQ P w K mg base 1 f "Web.at" st_Web_at N_Web_at (rd_Web_at C_Web s_node) := fun cdv A outer s H E hr => by
  have hu := hu64 hr
  have hu5 := hu65 hr
  exact (qss_one (qs_ret (q_call d_node hr (qa_cons (qv 1) (qa_cons (qv 2) (qa_cons (q_fld T.cl_Web T.n_Web_threads (qv 0)) qa_nil))))))
/-! Web.tell_knot -/
abbrev st_Web_tell_knot : Stmt := inClass (top 17) 3
abbrev N_Web_tell_knot : List Str := ["self", "number", "spot", "wish", "low", "high"]
abbrev P_Web_tell_knot : List Str := ["self", "number", "spot", "wish"]
theorem sc_Web_tell_knot : FnScope N_Web_tell_knot P_Web_tell_knot (defScope st_Web_tell_knot) := ⟨rfl, rfl, rfl, by decide +kernel, rfl, by decide +kernel, by decide +kernel⟩
def rd_Web_tell_knot_1 (C_Web : Addr) (s_Web_at : Spd) (s_Web_tell : Spd) : TSd := (qDrop (qMeth C_Web "tell" s_Web_tell (qVar 0) (qCons (qVar 5) (qCons (qVar 4) (qCons (qCB rdSum (qCons (qVar 3) qNil)) qNil)))))
def rd_Web_tell_knot_2 (C_Web : Addr) (s_Web_at : Spd) (s_Web_tell : Spd) : TSd := (qSeq (qDrop (qMeth C_Web "tell" s_Web_tell (qVar 0) (qCons (qVar 4) (qCons (qVar 5) (qCons (qNeg (qCB rdSum (qCons (qVar 3) qNil))) qNil))))) (rd_Web_tell_knot_1 C_Web s_Web_at s_Web_tell))
def rd_Web_tell_knot_3 (C_Web : Addr) (s_Web_at : Spd) (s_Web_tell : Spd) : TSd := (qIfS (qB (qIsi "tuple" (qVar 3))) (rd_Web_tell_knot_2 C_Web s_Web_at s_Web_tell) (qIfS (qB (qBin rdEq (qVar 3) (qC (.int 1)))) (qDrop (qMeth C_Web "tell" s_Web_tell (qVar 0) (qCons (qVar 4) (qCons (qVar 5) (qCons (qNeg (qC (.int 1))) qNil))))) (qIfS (qB (qBin rdEq (qVar 3) (qC (.int 0)))) (qDrop (qMeth C_Web "tell" s_Web_tell (qVar 0) (qCons (qVar 5) (qCons (qVar 4) (qCons (qC (.int 1)) qNil))))) qNext)))
def rd_Web_tell_knot (C_Web : Addr) (s_Web_at : Spd) (s_Web_tell : Spd) : TSd := (qSeq (qSwap2 4 5 (qTup (qCons (qMeth C_Web "at" s_Web_at (qVar 0) (qCons (qVar 1) (qCons (qVar 2) qNil))) (qCons (qMeth C_Web "at" s_Web_at (qVar 0) (qCons (qVar 1) (qCons (qBin rdAdd (qVar 2) (qC (.int 2))) qNil))) qNil)))) (rd_Web_tell_knot_3 C_Web s_Web_at s_Web_tell))
def sp_Web_tell_knot (C_Web : Addr) : Spd := spB 6 4 (rd_Web_tell_knot C_Web (sp_Web_at C_Web) (sp_Web_tell C_Web))
theorem bd_Web_tell_knot (T : Txt K mg C_Web) {f : Addr} {s_Web_at : Spd} (d_Web_at : MethQ P w K mg base 2 C_Web "at" s_Web_at) {s_Web_tell : Spd} (d_Web_tell : MethQ P w K mg base 1 C_Web "tell" s_Web_tell) : BodyQ P w K mg base 2 f "Web.tell_knot" st_Web_tell_knot N_Web_tell_knot (rd_Web_tell_knot C_Web s_Web_at s_Web_tell) := fun cdv A outer s H E hr => by
  have hu := hu64 hr
  have hu5 := hu65 hr
  exact (qss_cons (qs_swap2 (i := 4) (j := 5) rfl sc_Web_tell_knot.nd (q_tup (qa_cons (q_meth T.cl_Web d_Web_at hr (qv 0) (qa_cons (qv 1) (qa_cons (qv 2) qa_nil))) (qa_cons (q_meth T.cl_Web d_Web_at hr (qv 0) (qa_cons (qv 1) (qa_cons (q_op oq_add (qv 2) q_int) qa_nil))) qa_nil))))
      (qss_one (qs_if (qt_val (q_isi rfl T.b_isinstance rfl T.b_tuple (by decide +kernel) (qv 3))) (qss_cons (qs_expr (q_meth T.cl_Web d_Web_tell hr (qv 0) (qa_cons (qv 4) (qa_cons (qv 5) (qa_cons (q_neg (q_callB (cq_sum rfl) rfl T.b_sum (by decide +kernel) (qa_cons (qv 3) qa_nil))) qa_nil)))))
      (qss_one (qs_expr (q_meth T.cl_Web d_Web_tell hr (qv 0) (qa_cons (qv 5) (qa_cons (qv 4) (qa_cons (q_callB (cq_sum rfl) rfl T.b_sum (by decide +kernel) (qa_cons (qv 3) qa_nil)) qa_nil))))))) (qss_one (qs_if (qt_cmp (oq_eq hu) (qv 3) q_int) (qss_one (qs_expr (q_meth T.cl_Web d_Web_tell hr (qv 0) (qa_cons (qv 4) (qa_cons (qv 5) (qa_cons (q_neg q_int) qa_nil)))))) (qss_one (qs_if (qt_cmp (oq_eq hu) (qv 3) q_int) (qss_one (qs_expr (q_meth T.cl_Web d_Web_tell hr (qv 0) (qa_cons (qv 5) (qa_cons (qv 4) (qa_cons q_int qa_nil)))))) qss_nil)))))))
/-! Web.tell_line -/
abbrev st_Web_tell_line : Stmt := inClass (top 17) 4
abbrev N_Web_tell_line : List Str := ["self", "row", "line", "place", "wish", "low", "high"]
abbrev P_Web_tell_line : List Str := ["self", "row", "line"]
theorem sc_Web_tell_line : FnScope N_Web_tell_line P_Web_tell_line (defScope st_Web_tell_line) := ⟨rfl, rfl, rfl, by decide +kernel, rfl, by decide +kernel, by decide +kernel⟩
def rd_Web_tell_line_1 (C_Web : Addr) (s_Web_at : Spd) (s_Web_tell : Spd) : TSd := (qIfS (qB (qBin rdEq (qVar 4) (qC (.int 1)))) (qDrop (qMeth C_Web "tell" s_Web_tell (qVar 0) (qCons (qVar 5) (qCons (qVar 6) (qCons (qNeg (qC (.int 1))) qNil))))) (qIfS (qB (qBin rdEq (qVar 4) (qC (.int 0)))) (qDrop (qMeth C_Web "tell" s_Web_tell (qVar 0) (qCons (qVar 6) (qCons (qVar 5) (qCons (qC (.int 0)) qNil))))) qNext))
def rd_Web_tell_line_2 (C_Web : Addr) (s_Web_at : Spd) (s_Web_tell : Spd) : TSd := (qSeq (qSwap2 5 6 (qTup (qCons (qMeth C_Web "at" s_Web_at (qVar 0) (qCons (qVar 1) (qCons (qVar 3) qNil))) (qCons (qMeth C_Web "at" s_Web_at (qVar 0) (qCons (qVar 1) (qCons (qBin rdAdd (qVar 3) (qC (.int 1))) qNil))) qNil)))) (rd_Web_tell_line_1 C_Web s_Web_at s_Web_tell))
def rd_Web_tell_line (C_Web : Addr) (s_Web_at : Spd) (s_Web_tell : Spd) : TSd := (qFor (qEnumI (qCons (qIf (qB (qBin (rdIsN not) (qVar 2) (qC .non))) (qVar 2) (qTup qNil)) qNil)) (qgTup 2 (qgCons (qgName 3) (qgCons (qgName 4) qgNil))) (rd_Web_tell_line_2 C_Web s_Web_at s_Web_tell))
def sp_Web_tell_line (C_Web : Addr) : Spd := spB 7 3 (rd_Web_tell_line C_Web (sp_Web_at C_Web) (sp_Web_tell C_Web))
theorem bd_Web_tell_line (T : Txt K mg C_Web) {f : Addr} {s_Web_at : Spd} (d_Web_at : MethQ P w K mg base 2 C_Web "at" s_Web_at) {s_Web_tell : Spd} (d_Web_tell : MethQ P w K mg base 1 C_Web "tell" s_Web_tell) : BodyQ P w K mg base 2 f "Web.tell_line" st_Web_tell_line N_Web_tell_line (rd_Web_tell_line C_Web s_Web_at s_Web_tell) := fun cdv A outer s H E hr => by
  have hu := hu64 hr
  have hu5 := hu65 hr
  exact (qss_one (qs_for PassesOwn.never rfl (qi_enum rfl T.b_enumerate (qa_cons (q_if (qt_cmp oq_notN (qv 2) q_non) (qv 2) (q_tup qa_nil)) qa_nil)) (qg_tup rfl (qgs_cons (qg_name (i := 3) sc_Web_tell_line.nd) (qgs_cons (qg_name (i := 4) sc_Web_tell_line.nd) qgs_nil))) (qss_cons (qs_swap2 (i := 5) (j := 6) rfl sc_Web_tell_line.nd (q_tup (qa_cons (q_meth T.cl_Web d_Web_at hr (qv 0) (qa_cons (qv 1) (qa_cons (qv 3) qa_nil))) (qa_cons (q_meth T.cl_Web d_Web_at hr (qv 0) (qa_cons (qv 1) (qa_cons (q_op oq_add (qv 3) q_int) qa_nil))) qa_nil))))
      (qss_one (qs_if (qt_cmp (oq_eq hu) (qv 4) q_int) (qss_one (qs_expr (q_meth T.cl_Web d_Web_tell hr (qv 0) (qa_cons (qv 5) (qa_cons (qv 6) (qa_cons (q_neg q_int) qa_nil)))))) (qss_one (qs_if (qt_cmp (oq_eq hu) (qv 4) q_int) (qss_one (qs_expr (q_meth T.cl_Web d_Web_tell hr (qv 0) (qa_cons (qv 6) (qa_cons (qv 5) (qa_cons q_int qa_nil)))))) qss_nil)))))))
/-! Web.__init__ -/
abbrev st_Web___init__ : Stmt := inClass (top 17) 0
abbrev N_Web___init__ : List Str := ["self", "task", "row", "place", "number", "spot", "wish"]
abbrev P_Web___init__ : List Str := ["self", "task"]
theorem sc_Web___init__ : FnScope N_Web___init__ P_Web___init__ (defScope st_Web___init__) := ⟨rfl, rfl, rfl, by decide +kernel, rfl, by decide +kernel, by decide +kernel⟩
def rd_Web___init___1 (C_Web : Addr) (s_Web_tell : Spd) (s_Web_at : Spd) (s_spots_of : Spd) (s_Web_tell_knot : Spd) (s_Web_tell_line : Spd) : TSd := (qDrop (qMeth C_Web "tell" s_Web_tell (qVar 0) (qCons (qMeth C_Web "at" s_Web_at (qVar 0) (qCons (qVar 2) (qCons (qVar 3) qNil))) (qCons (qMeth C_Web "at" s_Web_at (qVar 0) (qCons (qVar 2) (qCons (qBin rdAdd (qVar 3) (qC (.int 1))) qNil))) (qCons (qC (.int 0)) qNil)))))
def rd_Web___init___2 (C_Web : Addr) (s_Web_tell : Spd) (s_Web_at : Spd) (s_spots_of : Spd) (s_Web_tell_knot : Spd) (s_Web_tell_line : Spd) : TSd := (qSeq (qDrop (qMeth C_Web "tell" s_Web_tell (qVar 0) (qCons (qMeth C_Web "at" s_Web_at (qVar 0) (qCons (qVar 2) (qCons (qBin rdAdd (qVar 3) (qC (.int 1))) qNil))) (qCons (qMeth C_Web "at" s_Web_at (qVar 0) (qCons (qVar 2) (qCons (qVar 3) qNil))) (qCons (qC (.int 1)) qNil))))) (rd_Web___init___1 C_Web s_Web_tell s_Web_at s_spots_of s_Web_tell_knot s_Web_tell_line))
def rd_Web___init___3 (C_Web : Addr) (s_Web_tell : Spd) (s_Web_at : Spd) (s_spots_of : Spd) (s_Web_tell_knot : Spd) (s_Web_tell_line : Spd) : TSd := (qDrop (qMeth C_Web "tell" s_Web_tell (qVar 0) (qCons (qTup (qCons (qC (.int 0)) (qCons (qC (.int 0)) qNil))) (qCons (qTup (qCons (qC (.int 0)) (qCons (qFld C_Web "threads" (qVar 0)) qNil))) (qCons (qNeg (qIxK 5 (qVar 1))) qNil)))))
def rd_Web___init___4 (C_Web : Addr) (s_Web_tell : Spd) (s_Web_at : Spd) (s_spots_of : Spd) (s_Web_tell_knot : Spd) (s_Web_tell_line : Spd) : TSd := (qSeq (qDrop (qMeth C_Web "tell" s_Web_tell (qVar 0) (qCons (qTup (qCons (qC (.int 0)) (qCons (qFld C_Web "threads" (qVar 0)) qNil))) (qCons (qTup (qCons (qC (.int 0)) (qCons (qC (.int 0)) qNil))) (qCons (qIxK 5 (qVar 1)) qNil))))) (rd_Web___init___3 C_Web s_Web_tell s_Web_at s_spots_of s_Web_tell_knot s_Web_tell_line))
def rd_Web___init___5 (C_Web : Addr) (s_Web_tell : Spd) (s_Web_at : Spd) (s_spots_of : Spd) (s_Web_tell_knot : Spd) (s_Web_tell_line : Spd) : TSd := (qIfS (qB (qBin (rdIsN not) (qIxK 5 (qVar 1)) (qC .non))) (rd_Web___init___4 C_Web s_Web_tell s_Web_at s_spots_of s_Web_tell_knot s_Web_tell_line) qNext)
def rd_Web___init___6 (C_Web : Addr) (s_Web_tell : Spd) (s_Web_at : Spd) (s_spots_of : Spd) (s_Web_tell_knot : Spd) (s_Web_tell_line : Spd) : TSd := (qSeq (qDrop (qMeth C_Web "tell_line" s_Web_tell_line (qVar 0) (qCons (qFld C_Web "many" (qVar 0)) (qCons (qIxK 4 (qVar 1)) qNil)))) (rd_Web___init___5 C_Web s_Web_tell s_Web_at s_spots_of s_Web_tell_knot s_Web_tell_line))
def rd_Web___init___7 (C_Web : Addr) (s_Web_tell : Spd) (s_Web_at : Spd) (s_spots_of : Spd) (s_Web_tell_knot : Spd) (s_Web_tell_line : Spd) : TSd := (qSeq (qDrop (qMeth C_Web "tell_line" s_Web_tell_line (qVar 0) (qCons (qC (.int 0)) (qCons (qIxK 3 (qVar 1)) qNil)))) (rd_Web___init___6 C_Web s_Web_tell s_Web_at s_spots_of s_Web_tell_knot s_Web_tell_line))
def rd_Web___init___8 (C_Web : Addr) (s_Web_tell : Spd) (s_Web_at : Spd) (s_spots_of : Spd) (s_Web_tell_knot : Spd) (s_Web_tell_line : Spd) : TSd := (qSeq (qFor (qEnumI (qCons (qIxK 2 (qVar 1)) qNil)) (qgTup 2 (qgCons (qgName 4) (qgCons (qgName 2) qgNil))) (qFor (qZipI (qCons (qCall s_spots_of (qCons (qFld C_Web "threads" (qVar 0)) (qCons (qVar 4) qNil))) (qCons (qVar 2) qNil))) (qgTup 2 (qgCons (qgName 5) (qgCons (qgName 6) qgNil))) (qDrop (qMeth C_Web "tell_knot" s_Web_tell_knot (qVar 0) (qCons (qVar 4) (qCons (qVar 5) (qCons (qVar 6) qNil))))))) (rd_Web___init___7 C_Web s_Web_tell s_Web_at s_spots_of s_Web_tell_knot s_Web_tell_line))
def rd_Web___init___9 (C_Web : Addr) (s_Web_tell : Spd) (s_Web_at : Spd) (s_spots_of : Spd) (s_Web_tell_knot : Spd) (s_Web_tell_line : Spd) : TSd := (qSeq (qFor (qRng1 (qCons (qBin rdAdd (qFld C_Web "many" (qVar 0)) (qC (.int 1))) qNil)) (qgName 2) (qFor (qRng1 (qCons (qFld C_Web "threads" (qVar 0)) qNil)) (qgName 3) (rd_Web___init___2 C_Web s_Web_tell s_Web_at s_spots_of s_Web_tell_knot s_Web_tell_line))) (rd_Web___init___8 C_Web s_Web_tell s_Web_at s_spots_of s_Web_tell_knot s_Web_tell_line))
def rd_Web___init__ (C_Web : Addr) (s_Web_tell : Spd) (s_Web_at : Spd) (s_spots_of : Spd) (s_Web_tell_knot : Spd) (s_Web_tell_line : Spd) : TSd := (qSeq (qAsg (qTup (qCons (qIxK 1 (qVar 1)) (qCons (qCB rdLen (qCons (qIxK 2 (qVar 1)) qNil)) (qCons qNewT qNil)))) (qgTup 3 (qgCons (qgFld C_Web "threads" (qVar 0)) (qgCons (qgFld C_Web "many" (qVar 0)) (qgCons (qgFld C_Web "told" (qVar 0)) qgNil))))) (rd_Web___init___9 C_Web s_Web_tell s_Web_at s_spots_of s_Web_tell_knot s_Web_tell_line))
def sp_Web___init__ (C_Web : Addr) : Spd := spB 7 2 (rd_Web___init__ C_Web (sp_Web_tell C_Web) (sp_Web_at C_Web) (sp_spots_of) (sp_Web_tell_knot C_Web) (sp_Web_tell_line C_Web))
theorem bd_Web___init__ (T : Txt K mg C_Web) {f : Addr} {s_Web_tell : Spd} (d_Web_tell : MethQ P w K mg base 1 C_Web "tell" s_Web_tell) {s_Web_at : Spd} (d_Web_at : MethQ P w K mg base 2 C_Web "at" s_Web_at) {s_spots_of : Spd} (d_spots_of : DefQ P w K mg base 1 "spots_of" s_spots_of) {s_Web_tell_knot : Spd} (d_Web_tell_knot : MethQ P w K mg base 3 C_Web "tell_knot" s_Web_tell_knot) {s_Web_tell_line : Spd} (d_Web_tell_line : MethQ P w K mg base 3 C_Web "tell_line" s_Web_tell_line) : BodyQ P w K mg base 3 f "Web.__init__" st_Web___init__ N_Web___init__ (rd_Web___init__ C_Web s_Web_tell s_Web_at s_spots_of s_Web_tell_knot s_Web_tell_line) := fun cdv A outer s H E hr => by
  have hu := hu64 hr
  have hu5 := hu65 hr
  exact (qss_cons (qs_asg (q_tup (qa_cons (q_ixk (k := 1) (qv 1)) (qa_cons (q_callB cq_len rfl T.b_len (by decide +kernel) (qa_cons (q_ixk (k := 2) (qv 1)) qa_nil)) (qa_cons q_newT qa_nil)))) (qg_tup rfl (qgs_cons (qg_fld T.cl_Web T.n_Web_threads (qv 0)) (qgs_cons (qg_fld T.cl_Web T.n_Web_many (qv 0)) (qgs_cons (qg_fld T.cl_Web T.n_Web_told (qv 0)) qgs_nil)))))
      (qss_cons (qs_for PassesOwn.never rfl (qi_range1 rfl T.b_range (qa_cons (q_op oq_add (q_fld T.cl_Web T.n_Web_many (qv 0)) q_int) qa_nil)) (qg_name (i := 2) sc_Web___init__.nd) (qss_one (qs_for PassesOwn.never rfl (qi_range1 rfl T.b_range (qa_cons (q_fld T.cl_Web T.n_Web_threads (qv 0)) qa_nil)) (qg_name (i := 3) sc_Web___init__.nd) (qss_cons (qs_expr (q_meth T.cl_Web d_Web_tell hr (qv 0) (qa_cons (q_meth T.cl_Web d_Web_at hr (qv 0) (qa_cons (qv 2) (qa_cons (q_op oq_add (qv 3) q_int) qa_nil))) (qa_cons (q_meth T.cl_Web d_Web_at hr (qv 0) (qa_cons (qv 2) (qa_cons (qv 3) qa_nil))) (qa_cons q_int qa_nil)))))
      (qss_one (qs_expr (q_meth T.cl_Web d_Web_tell hr (qv 0) (qa_cons (q_meth T.cl_Web d_Web_at hr (qv 0) (qa_cons (qv 2) (qa_cons (qv 3) qa_nil))) (qa_cons (q_meth T.cl_Web d_Web_at hr (qv 0) (qa_cons (qv 2) (qa_cons (q_op oq_add (qv 3) q_int) qa_nil))) (qa_cons q_int qa_nil))))))))))
      (qss_cons (qs_for PassesOwn.never rfl (qi_enum rfl T.b_enumerate (qa_cons (q_ixk (k := 2) (qv 1)) qa_nil)) (qg_tup rfl (qgs_cons (qg_name (i := 4) sc_Web___init__.nd) (qgs_cons (qg_name (i := 2) sc_Web___init__.nd) qgs_nil))) (qss_one (qs_for PassesOwn.never rfl (qi_zip rfl T.b_zip (qa_cons (q_call d_spots_of hr (qa_cons (q_fld T.cl_Web T.n_Web_threads (qv 0)) (qa_cons (qv 4) qa_nil))) (qa_cons (qv 2) qa_nil))) (qg_tup rfl (qgs_cons (qg_name (i := 5) sc_Web___init__.nd) (qgs_cons (qg_name (i := 6) sc_Web___init__.nd) qgs_nil))) (qss_one (qs_expr (q_meth T.cl_Web d_Web_tell_knot hr (qv 0) (qa_cons (qv 4) (qa_cons (qv 5) (qa_cons (qv 6) qa_nil)))))))))
      (qss_cons (qs_expr (q_meth T.cl_Web d_Web_tell_line hr (qv 0) (qa_cons q_int (qa_cons (q_ixk (k := 3) (qv 1)) qa_nil))))
      (qss_cons (qs_expr (q_meth T.cl_Web d_Web_tell_line hr (qv 0) (qa_cons (q_fld T.cl_Web T.n_Web_many (qv 0)) (qa_cons (q_ixk (k := 4) (qv 1)) qa_nil))))
      (qss_one (qs_if (qt_cmp oq_notN (q_ixk (k := 5) (qv 1)) q_non) (qss_cons (qs_expr (q_meth T.cl_Web d_Web_tell hr (qv 0) (qa_cons (q_tup (qa_cons q_int (qa_cons (q_fld T.cl_Web T.n_Web_threads (qv 0)) qa_nil))) (qa_cons (q_tup (qa_cons q_int (qa_cons q_int qa_nil))) (qa_cons (q_ixk (k := 5) (qv 1)) qa_nil)))))
      (qss_one (qs_expr (q_meth T.cl_Web d_Web_tell hr (qv 0) (qa_cons (q_tup (qa_cons q_int (qa_cons q_int qa_nil))) (qa_cons (q_tup (qa_cons q_int (qa_cons (q_fld T.cl_Web T.n_Web_threads (qv 0)) qa_nil))) (qa_cons (q_neg (q_ixk (k := 5) (qv 1))) qa_nil))))))) qss_nil)))))))
/-! task_of_motifs -/
abbrev st_task_of_motifs : Stmt := top 25
abbrev N_task_of_motifs : List Str := ["motif", "many", "start"]
abbrev P_task_of_motifs : List Str := ["motif", "many", "start"]
theorem sc_task_of_motifs : FnScope N_task_of_motifs P_task_of_motifs (defScope st_task_of_motifs) := ⟨rfl, rfl, rfl, by decide +kernel, rfl, by decide +kernel, by decide +kernel⟩
def rd_task_of_motifs : TSd := (qRet (qTup (qCons (qC (.str "task")) (qCons (qIxK 1 (qVar 0)) (qCons (qBin rMulA (qIxK 2 (qVar 0)) (qVar 1)) (qCons (qVar 2) (qCons (qC .non) (qCons (qC .non) qNil))))))))
def sp_task_of_motifs : Spd := spB 3 3 (rd_task_of_motifs)
theorem bd_task_of_motifs (T : Txt K mg C_Web) {f : Addr} : BodyQ P w K mg base 0 f "task_of_motifs" st_task_of_motifs N_task_of_motifs (rd_task_of_motifs) := fun cdv A outer s H E hr => by
  have hu := hu64 hr
  have hu5 := hu65 hr
  exact (qss_one (qs_ret (q_tup (qa_cons q_str (qa_cons (q_ixk (k := 1) (qv 0)) (qa_cons (q_op oq_mulA (q_ixk (k := 2) (qv 0)) (qv 1)) (qa_cons (qv 2) (qa_cons q_non (qa_cons q_non qa_nil)))))))))
/-! brought_near -/
abbrev st_brought_near : Stmt := top 35
abbrev N_brought_near : List Str := ["motif", "many", "wish", "long", "far", "by", "one", "other", "row", "cut"]
abbrev P_brought_near : List Str := ["motif", "many", "wish"]
theorem sc_brought_near : FnScope N_brought_near P_brought_near (defScope st_brought_near) := ⟨rfl, rfl, rfl, by decide +kernel, rfl, by decide +kernel, by decide +kernel⟩
def rd_brought_near_1 : TSd := (qRet (qTup (qCons (qVar 6) (qCons (qVar 7) (qCons (qIxK 2 (qVar 2)) qNil)))))
def rd_brought_near_2 : TSd := (qSeq (qAsg (qLc (qSeqI (qSl (qVar 2) qNoPart (qPart (qC (.int 2))))) (qgTup 2 (qgCons (qgName 8) (qgCons (qgName 9) qgNil))) qYes (qTup (qCons (qIf (qB (qBin rGt (qVar 8) (qC (.int 0)))) (qBin rSubD (qVar 8) (qVar 5)) (qVar 8)) (qCons (qVar 9) qNil))) [8, 9]) (qgTupL 2 (qgCons (qgName 6) (qgCons (qgName 7) qgNil)))) (rd_brought_near_1))
def rd_brought_near_3 : TSd := (qSeq (qIfS (qB (qBin rGt (qVar 4) (qBin rSubD (qBin rMulA (qVar 1) (qVar 3)) (qVar 3)))) (qAsg (qBin rSubD (qBin rMulA (qVar 1) (qVar 3)) (qBin rMulA (qC gd_NEAR_MOTIFS) (qVar 3))) (qgName 5)) qNext) (rd_brought_near_2))
def rd_brought_near_4 : TSd := (qSeq (qAsg (qBin rSubD (qBin rMulA (qBin rFdiv (qBin rSubD (qVar 4) (qC (.int 1))) (qVar 3)) (qVar 3)) (qVar 3)) (qgName 5)) (rd_brought_near_3))
def rd_brought_near_5 : TSd := (qSeq (qIfS (qOrT (qB (qBin rLe (qVar 1) (qC gd_NEAR_MOTIFS))) (qB (qBin rLe (qVar 4) (qBin rMulA (qC (.int 2)) (qVar 3))))) (qRet (qVar 2)) qNext) (rd_brought_near_4))
def rd_brought_near : TSd := (qSeq (qSwap2 3 4 (qTup (qCons (qCB rdLen (qCons (qIxK 2 (qVar 0)) qNil)) (qCons (qCB (rdI2 fun i j => max i j) (qCons (qIxK 0 (qIxK 0 (qVar 2))) (qCons (qIxK 0 (qIxK 1 (qVar 2))) qNil))) qNil)))) (rd_brought_near_5))
def sp_brought_near : Spd := spB 10 3 (rd_brought_near)
theorem bd_brought_near (T : Txt K mg C_Web) {f : Addr} : BodyQ P w K mg base 0 f "brought_near" st_brought_near N_brought_near (rd_brought_near) := fun cdv A outer s H E hr => by
  have hu := hu64 hr
  have hu5 := hu65 hr
  exact (qss_cons (qs_swap2 (i := 3) (j := 4) rfl sc_brought_near.nd (q_tup (qa_cons (q_callB cq_len rfl T.b_len (by decide +kernel) (qa_cons (q_ixk (k := 2) (qv 0)) qa_nil)) (qa_cons (q_callB (cq_max2 rfl) rfl T.b_max (by decide +kernel) (qa_cons (q_ixk (k := 0) (q_ixk (k := 0) (qv 2))) (qa_cons (q_ixk (k := 0) (q_ixk (k := 1) (qv 2))) qa_nil))) qa_nil))))
      (qss_cons (qs_if (qw_t (qw_or (qt_cmp oq_le (qv 1) (q_globE rfl T.g_NEAR_MOTIFS)) (qw_or1 (qt_cmp oq_le (qv 4) (q_op oq_mulA q_int (qv 3)))))) (qss_one (qs_ret (qv 2))) qss_nil)
      (qss_cons (qs_set (i := 5) sc_brought_near.nd (q_op oq_sub (q_op oq_mulA (q_op oq_fdiv (q_op oq_sub (qv 4) q_int) (qv 3)) (qv 3)) (qv 3)))
      (qss_cons (qs_if (qt_cmp oq_gt (qv 4) (q_op oq_sub (q_op oq_mulA (qv 1) (qv 3)) (qv 3))) (qss_one (qs_set (i := 5) sc_brought_near.nd (q_op oq_sub (q_op oq_mulA (qv 1) (qv 3)) (q_op oq_mulA (q_globE rfl T.g_NEAR_MOTIFS) (qv 3))))) qss_nil)
      (qss_cons (qs_asg (q_lc (own := [("row", 8), ("cut", 9)]) (cg_tup (cgs_cons tgm_name (tgsm_cons tgm_name tgsm_nil) cg_name (cgs_cons tgm_name tgsm_nil cg_name cgs_nil))) (tgm_tup (tgsm_cons tgm_name (tgsm_cons tgm_name tgsm_nil))) rfl sc_brought_near.nd (qi_seq (q_slice (qv 2) qo_none (qo_some q_int))) (blkOk_by (by kernel_rfl)) (fun _ _ _ _ _ => (pg_tup rfl (pgs_cons (pg_name (i := 8) sc_brought_near.nd rfl (by first | exact .inl rfl | exact .inr rfl)) (pgs_cons (pg_name (i := 9) sc_brought_near.nd rfl (by first | exact .inl rfl | exact .inr rfl)) pgs_nil)))) (fun _ _ _ _ _ => qts_nil) (fun _ _ _ _ _ => (q_tup (qa_cons (q_if (qt_cmp oq_gt (qv 8) q_int) (q_op oq_sub (qv 8) (qv 5)) (qv 8)) (qa_cons (qv 9) qa_nil))))) (qg_tupL rfl (qgs_cons (qg_name (i := 6) sc_brought_near.nd) (qgs_cons (qg_name (i := 7) sc_brought_near.nd) qgs_nil))))
      (qss_one (qs_ret (q_tup (qa_cons (qv 6) (qa_cons (qv 7) (qa_cons (q_ixk (k := 2) (qv 2)) qa_nil)))))))))))
/-! is_never -/
abbrev st_is_never : Stmt := top 36
abbrev N_is_never : List Str := ["motif", "start", "thing", "told", "wish", "one", "other"]
abbrev P_is_never : List Str := ["motif", "start", "thing"]
theorem sc_is_never : FnScope N_is_never P_is_never (defScope st_is_never) := ⟨rfl, rfl, rfl, by decide +kernel, rfl, by decide +kernel, by decide +kernel⟩
def rd_is_never_1 (C_Web : Addr) (s_is_number : Spd) (s_is_wish_form : Spd) (s_Web___init__ : Spd) (s_task_of_motifs : Spd) (s_brought_near : Spd) : TSd := (qRet (qBin rLt (qCB rdSum (qCons (qLc (qSeqI (qIxK 2 (qVar 2))) (qgName 4) qYes (qIxK 2 (qVar 4)) [4]) qNil)) (qC (.int 0))))
def rd_is_never_2 (C_Web : Addr) (s_is_number : Spd) (s_is_wish_form : Spd) (s_Web___init__ : Spd) (s_task_of_motifs : Spd) (s_brought_near : Spd) : TSd := (qSeq (qIfS (qNotT (qB (qCB (rdBs fun bs => bs.all id) (qCons (qLc (qZipI (qCons (qIxK 2 (qVar 2)) (qCons (qBin rdAdd (qSl (qIxK 2 (qVar 2)) (qPart (qC (.int 1))) qNoPart) (qSl (qIxK 2 (qVar 2)) qNoPart (qPart (qC (.int 1))))) qNil))) (qgTup 2 (qgCons (qgName 5) (qgCons (qgName 6) qgNil))) qYes (qBin rdEq (qIxK 1 (qVar 5)) (qIxK 0 (qVar 6))) [5, 6]) qNil)))) (qRet (qC (.bl false))) qNext) (rd_is_never_1 C_Web s_is_number s_is_wish_form s_Web___init__ s_task_of_motifs s_brought_near))
def rd_is_never_3 (C_Web : Addr) (s_is_number : Spd) (s_is_wish_form : Spd) (s_Web___init__ : Spd) (s_task_of_motifs : Spd) (s_brought_near : Spd) : TSd := (qSeq (qFor (qSeqI (qLc (qSeqI (qIxK 2 (qVar 2))) (qgName 4) qYes (qCall s_brought_near (qCons (qVar 0) (qCons (qIxK 1 (qVar 2)) (qCons (qVar 4) qNil)))) [4])) (qgName 4) (qIfS (qOrT (qB (qBin (rdTIn not) (qSl (qVar 4) qNoPart (qPart (qC (.int 2)))) (qVar 3))) (qB (qBin rdNe (qBin rdTGet (qVar 3) (qSl (qVar 4) qNoPart (qPart (qC (.int 2))))) (qIxK 2 (qVar 4))))) (qRet (qC (.bl false))) qNext)) (rd_is_never_2 C_Web s_is_number s_is_wish_form s_Web___init__ s_task_of_motifs s_brought_near))
def rd_is_never_4 (C_Web : Addr) (s_is_number : Spd) (s_is_wish_form : Spd) (s_Web___init__ : Spd) (s_task_of_motifs : Spd) (s_brought_near : Spd) : TSd := (qSeq (qAsg (qFld C_Web "told" (qMake C_Web s_Web___init__ (qCons (qCall s_task_of_motifs (qCons (qVar 0) (qCons (qCB (rdI2 fun i j => min i j) (qCons (qIxK 1 (qVar 2)) (qCons (qC gd_NEAR_MOTIFS) qNil))) (qCons (qVar 1) qNil)))) qNil))) (qgName 3)) (rd_is_never_3 C_Web s_is_number s_is_wish_form s_Web___init__ s_task_of_motifs s_brought_near))
def rd_is_never_5 (C_Web : Addr) (s_is_number : Spd) (s_is_wish_form : Spd) (s_Web___init__ : Spd) (s_task_of_motifs : Spd) (s_brought_near : Spd) : TSd := (qSeq (qIfS (qNotT (qB (qCB (rdBs fun bs => bs.all id) (qCons (qLc (qSeqI (qIxK 2 (qVar 2))) (qgName 4) qYes (qCall s_is_wish_form (qCons (qVar 0) (qCons (qIxK 1 (qVar 2)) (qCons (qVar 4) qNil)))) [4]) qNil)))) (qRet (qC (.bl false))) qNext) (rd_is_never_4 C_Web s_is_number s_is_wish_form s_Web___init__ s_task_of_motifs s_brought_near))
def rd_is_never (C_Web : Addr) (s_is_number : Spd) (s_is_wish_form : Spd) (s_Web___init__ : Spd) (s_task_of_motifs : Spd) (s_brought_near : Spd) : TSd := (qSeq (qIfS (qOrT (qNotT (qB (qCall s_is_number (qCons (qIxK 1 (qVar 2)) (qCons (qC (.int 1)) (qCons (qC (.int 9999)) qNil)))))) (qOrT (qNotT (qB (qIsi "tuple" (qIxK 2 (qVar 2))))) (qB (qBin rdEq (qIxK 2 (qVar 2)) (qTup qNil))))) (qRet (qC (.bl false))) qNext) (rd_is_never_5 C_Web s_is_number s_is_wish_form s_Web___init__ s_task_of_motifs s_brought_near))
def sp_is_never (C_Web : Addr) : Spd := spB 7 3 (rd_is_never C_Web (sp_is_number) (sp_is_wish_form) (sp_Web___init__ C_Web) (sp_task_of_motifs) (sp_brought_near))
theorem bd_is_never (T : Txt K mg C_Web) {f : Addr} {s_is_number : Spd} (d_is_number : DefQ P w K mg base 1 "is_number" s_is_number) {s_is_wish_form : Spd} (d_is_wish_form : DefQ P w K mg base 2 "is_wish_form" s_is_wish_form) {s_Web___init__ : Spd} (d_Web___init__ : MakeQ P w K mg base 4 C_Web "Web" s_Web___init__) {s_task_of_motifs : Spd} (d_task_of_motifs : DefQ P w K mg base 1 "task_of_motifs" s_task_of_motifs) {s_brought_near : Spd} (d_brought_near : DefQ P w K mg base 1 "brought_near" s_brought_near) : BodyQ P w K mg base 5 f "is_never" st_is_never N_is_never (rd_is_never C_Web s_is_number s_is_wish_form s_Web___init__ s_task_of_motifs s_brought_near) := fun cdv A outer s H E hr => by
  have hu := hu64 hr
  have hu5 := hu65 hr
  exact (qss_cons (qs_if (qw_t (qw_or (qt_not (qt_val (q_call d_is_number hr (qa_cons (q_ixk (k := 1) (qv 2)) (qa_cons q_int (qa_cons q_int qa_nil)))))) (qw_or (qt_not (qt_val (q_isi rfl T.b_isinstance rfl T.b_tuple (by decide +kernel) (q_ixk (k := 2) (qv 2))))) (qw_or1 (qt_cmp (oq_eq hu) (q_ixk (k := 2) (qv 2)) (q_tup qa_nil)))))) (qss_one (qs_ret q_bl)) qss_nil)
      (qss_cons (qs_if (qt_not (qt_val (q_callB (cq_all rfl) rfl T.b_all (by decide +kernel) (qa_cons (q_lc (own := [("wish", 4)]) cg_name tgm_name rfl sc_is_never.nd (qi_seq (q_ixk (k := 2) (qv 2))) (blkOk_by (by kernel_rfl)) (fun _ _ _ _ _ => (pg_name (i := 4) sc_is_never.nd rfl (by first | exact .inl rfl | exact .inr rfl))) (fun _ _ _ _ _ => qts_nil) (fun _ _ _ _ _ => (q_call d_is_wish_form hr (qa_cons (qv 0) (qa_cons (q_ixk (k := 1) (qv 2)) (qa_cons (qv 4) qa_nil)))))) qa_nil)))) (qss_one (qs_ret q_bl)) qss_nil)
      (qss_cons (qs_set (i := 3) sc_is_never.nd (q_fld T.cl_Web T.n_Web_told (q_make d_Web___init__ hr (qa_cons (q_call d_task_of_motifs hr (qa_cons (qv 0) (qa_cons (q_callB (cq_min2 rfl) rfl T.b_min (by decide +kernel) (qa_cons (q_ixk (k := 1) (qv 2)) (qa_cons (q_globE rfl T.g_NEAR_MOTIFS) qa_nil))) (qa_cons (qv 1) qa_nil)))) qa_nil))))
      (qss_cons (qs_for PassesOwn.never rfl (qi_seq (q_lc (own := [("wish", 4)]) cg_name tgm_name rfl sc_is_never.nd (qi_seq (q_ixk (k := 2) (qv 2))) (blkOk_by (by kernel_rfl)) (fun _ _ _ _ _ => (pg_name (i := 4) sc_is_never.nd rfl (by first | exact .inl rfl | exact .inr rfl))) (fun _ _ _ _ _ => qts_nil) (fun _ _ _ _ _ => (q_call d_brought_near hr (qa_cons (qv 0) (qa_cons (q_ixk (k := 1) (qv 2)) (qa_cons (qv 4) qa_nil))))))) (qg_name (i := 4) sc_is_never.nd) (qss_one (qs_if (qw_t (qw_or (qt_cmp (hm := by rfl) (oq_tnin hu) (q_slice (qv 4) qo_none (qo_some q_int)) (qv 3)) (qw_or1 (qt_cmp (oq_ne hu) (q_tget hu (qv 3) (q_slice (qv 4) qo_none (qo_some q_int))) (q_ixk (k := 2) (qv 4)))))) (qss_one (qs_ret q_bl)) qss_nil)))
      (qss_cons (qs_if (qt_not (qt_val (q_callB (cq_all rfl) rfl T.b_all (by decide +kernel) (qa_cons (q_lc (own := [("one", 5), ("other", 6)]) (cg_tup (cgs_cons tgm_name (tgsm_cons tgm_name tgsm_nil) cg_name (cgs_cons tgm_name tgsm_nil cg_name cgs_nil))) (tgm_tup (tgsm_cons tgm_name (tgsm_cons tgm_name tgsm_nil))) rfl sc_is_never.nd (qi_zip rfl T.b_zip (qa_cons (q_ixk (k := 2) (qv 2)) (qa_cons (q_op oq_add (q_slice (q_ixk (k := 2) (qv 2)) (qo_some q_int) qo_none) (q_slice (q_ixk (k := 2) (qv 2)) qo_none (qo_some q_int))) qa_nil))) (blkOk_by (by kernel_rfl)) (fun _ _ _ _ _ => (pg_tup rfl (pgs_cons (pg_name (i := 5) sc_is_never.nd rfl (by first | exact .inl rfl | exact .inr rfl)) (pgs_cons (pg_name (i := 6) sc_is_never.nd rfl (by first | exact .inl rfl | exact .inr rfl)) pgs_nil)))) (fun _ _ _ _ _ => qts_nil) (fun _ _ _ _ _ => (q_cmp (oq_eq hu) (q_ixk (k := 1) (qv 5)) (q_ixk (k := 0) (qv 6))))) qa_nil)))) (qss_one (qs_ret q_bl)) qss_nil)
      (qss_one (qs_ret (q_cmp oq_lt (q_callB (cq_sum rfl) rfl T.b_sum (by decide +kernel) (qa_cons (q_lc (own := [("wish", 4)]) cg_name tgm_name rfl sc_is_never.nd (qi_seq (q_ixk (k := 2) (qv 2))) (blkOk_by (by kernel_rfl)) (fun _ _ _ _ _ => (pg_name (i := 4) sc_is_never.nd rfl (by first | exact .inl rfl | exact .inr rfl))) (fun _ _ _ _ _ => qts_nil) (fun _ _ _ _ _ => (q_ixk (k := 2) (qv 4)))) qa_nil)) q_int))))))))
/-! is_lasting_paper -/
abbrev st_is_lasting_paper : Stmt := top 37
abbrev N_is_lasting_paper : List Str := ["motif", "start", "thing"]
abbrev P_is_lasting_paper : List Str := ["motif", "start", "thing"]
theorem sc_is_lasting_paper : FnScope N_is_lasting_paper P_is_lasting_paper (defScope st_is_lasting_paper) := ⟨rfl, rfl, rfl, by decide +kernel, rfl, by decide +kernel, by decide +kernel⟩
def rd_is_lasting_paper_1 (C_Web : Addr) (s_need_motif : Spd) (s_need_start : Spd) (s_is_never : Spd) : TSd := qNever
def rd_is_lasting_paper_2 (C_Web : Addr) (s_need_motif : Spd) (s_need_start : Spd) (s_is_never : Spd) : TSd := (qSeq (qIfS (qB (qBin rdEq (qCB rdLen (qCons (qVar 2) qNil)) (qC (.int 3)))) (qRet (qAndV (qBin rdEq (qIxK 0 (qVar 2)) (qC (.str "never"))) (qCall s_is_never (qCons (qVar 0) (qCons (qVar 1) (qCons (qVar 2) qNil)))))) qNext) (rd_is_lasting_paper_1 C_Web s_need_motif s_need_start s_is_never))
def rd_is_lasting_paper_3 (C_Web : Addr) (s_need_motif : Spd) (s_need_start : Spd) (s_is_never : Spd) : TSd := (qSeq (qIfS (qOrT (qNotT (qB (qIsi "tuple" (qVar 2)))) (qOrT (qB (qBin (rdInTup not) (qCB rdLen (qCons (qVar 2) qNil)) (qTup (qCons (qC (.int 2)) (qCons (qC (.int 3)) qNil))))) (qNotT (qB (qIsi "str" (qIxK 0 (qVar 2))))))) (qRet (qC (.bl false))) qNext) (rd_is_lasting_paper_2 C_Web s_need_motif s_need_start s_is_never))
def rd_is_lasting_paper_4 (C_Web : Addr) (s_need_motif : Spd) (s_need_start : Spd) (s_is_never : Spd) : TSd := (qSeq (qDrop (qCall s_need_start (qCons (qVar 0) (qCons (qVar 1) qNil)))) (rd_is_lasting_paper_3 C_Web s_need_motif s_need_start s_is_never))
def rd_is_lasting_paper (C_Web : Addr) (s_need_motif : Spd) (s_need_start : Spd) (s_is_never : Spd) : TSd := (qSeq (qDrop (qCall s_need_motif (qCons (qVar 0) qNil))) (rd_is_lasting_paper_4 C_Web s_need_motif s_need_start s_is_never))
def sp_is_lasting_paper (C_Web : Addr) : Spd := spB 3 3 (rd_is_lasting_paper C_Web (sp_need_motif) (sp_need_start) (sp_is_never C_Web))
theorem bd_is_lasting_paper (T : Txt K mg C_Web) {f : Addr} {s_need_motif : Spd} (d_need_motif : DefQ P w K mg base 5 "need_motif" s_need_motif) {s_need_start : Spd} (d_need_start : DefQ P w K mg base 2 "need_start" s_need_start) {s_is_never : Spd} (d_is_never : DefQ P w K mg base 6 "is_never" s_is_never) : BodyQ P w K mg base 6 f "is_lasting_paper" st_is_lasting_paper N_is_lasting_paper (rd_is_lasting_paper C_Web s_need_motif s_need_start s_is_never) := fun cdv A outer s H E hr => by
  have hu := hu64 hr
  have hu5 := hu65 hr
  exact (qss_cons (qs_expr (q_call d_need_motif hr (qa_cons (qv 0) qa_nil)))
      (qss_cons (qs_expr (q_call d_need_start hr (qa_cons (qv 0) (qa_cons (qv 1) qa_nil))))
      (qss_cons (qs_if (qw_t (qw_or (qt_not (qt_val (q_isi rfl T.b_isinstance rfl T.b_tuple (by decide +kernel) (qv 2)))) (qw_or (qt_cmp (hm := by rfl) (oq_ninT hu5) (q_callB cq_len rfl T.b_len (by decide +kernel) (qa_cons (qv 2) qa_nil)) (q_tup (qa_cons q_int (qa_cons q_int qa_nil)))) (qw_or1 (qt_not (qt_val (q_isi rfl T.b_isinstance rfl T.b_str (by decide +kernel) (q_ixk (k := 0) (qv 2))))))))) (qss_one (qs_ret q_bl)) qss_nil)
      (qss_cons (qs_if (qt_cmp (oq_eq hu) (q_callB cq_len rfl T.b_len (by decide +kernel) (qa_cons (qv 2) qa_nil)) q_int) (qss_one (qs_ret (q_and (q_cmp (oq_eq hu) (q_ixk (k := 0) (qv 2)) q_str) (q_one (q_call d_is_never hr (qa_cons (qv 0) (qa_cons (qv 1) (qa_cons (qv 2) qa_nil)))))))) qss_nil)
      qss_never))))
/-! law -/
abbrev st_law : Stmt := top 54
abbrev N_law : List Str := ["script", "draw", "turn", "threads", "half", "rows", "most", "here", "far", "wishes", "least", "places", "start", "motif", "row", "line", "things", "k", "x", "y", "n", "wish", "thing", "due", "p"]
abbrev P_law : List Str := ["script"]
theorem sc_law : FnScope N_law P_law (defScope st_law) := ⟨rfl, rfl, rfl, by decide +kernel, rfl, by decide +kernel, by decide +kernel⟩
def rd_law_1 (C_Web : Addr) (s__law_begun : Spd) (s__law_take : Spd) (s__law_wished_rows : Spd) (s__law_pick : Spd) (s__law_shuffled : Spd) (s__law_far_ring : Spd) (s__law_is_far_ring : Spd) (s__law_says : Spd) (s_is_lasting_paper : Spd) : TSd := (qIfS (qNotT (qB (qCall s__law_says (qCons (qCall s_is_lasting_paper (qCons (qVar 13) (qCons (qVar 12) (qCons (qVar 22) qNil)))) (qCons (qVar 23) qNil))))) (qRet (qC (.bl false))) qNext)
def rd_law_2 (C_Web : Addr) (s__law_begun : Spd) (s__law_take : Spd) (s__law_wished_rows : Spd) (s__law_pick : Spd) (s__law_shuffled : Spd) (s__law_far_ring : Spd) (s__law_is_far_ring : Spd) (s__law_says : Spd) (s_is_lasting_paper : Spd) : TSd := (qSeq (qAsg (qAndV (qBin rGt (qIxK 1 (qVar 22)) (qC (.int 0))) (qCall s__law_is_far_ring (qCons (qVar 3) (qCons (qVar 5) (qCons (qVar 12) (qCons (qVar 22) qNil)))))) (qgName 23)) (rd_law_1 C_Web s__law_begun s__law_take s__law_wished_rows s__law_pick s__law_shuffled s__law_far_ring s__law_is_far_ring s__law_says s_is_lasting_paper))
def rd_law_3 (C_Web : Addr) (s__law_begun : Spd) (s__law_take : Spd) (s__law_wished_rows : Spd) (s__law_pick : Spd) (s__law_shuffled : Spd) (s__law_far_ring : Spd) (s__law_is_far_ring : Spd) (s__law_says : Spd) (s_is_lasting_paper : Spd) : TSd := (qIfS (qB (qBin rdNe (qCall s__law_is_far_ring (qCons (qVar 3) (qCons (qVar 5) (qCons (qVar 12) (qCons (qIxK 0 (qVar 16)) qNil))))) (qBin rLt (qCB rdLen (qCons (qVar 11) qNil)) (qVar 10)))) (qRet (qC (.bl false))) qNext)
def rd_law_4 (C_Web : Addr) (s__law_begun : Spd) (s__law_take : Spd) (s__law_wished_rows : Spd) (s__law_pick : Spd) (s__law_shuffled : Spd) (s__law_far_ring : Spd) (s__law_is_far_ring : Spd) (s__law_says : Spd) (s_is_lasting_paper : Spd) : TSd := (qSeq (qFor (qSeqI (qVar 16)) (qgName 22) (rd_law_2 C_Web s__law_begun s__law_take s__law_wished_rows s__law_pick s__law_shuffled s__law_far_ring s__law_is_far_ring s__law_says s_is_lasting_paper)) (rd_law_3 C_Web s__law_begun s__law_take s__law_wished_rows s__law_pick s__law_shuffled s__law_far_ring s__law_is_far_ring s__law_says s_is_lasting_paper))
def rd_law_5 (C_Web : Addr) (s__law_begun : Spd) (s__law_take : Spd) (s__law_wished_rows : Spd) (s__law_pick : Spd) (s__law_shuffled : Spd) (s__law_far_ring : Spd) (s__law_is_far_ring : Spd) (s__law_says : Spd) (s_is_lasting_paper : Spd) : TSd := (qSeq (qFor (qSeqI (qLst (qCons (qTup (qCons (qVar 18) (qCons (qVar 19) (qCons (qBin rSubD (qVar 20) (qC (.int 1))) qNil)))) (qCons (qTup (qCons (qVar 18) (qCons (qVar 19) (qCons (qBin rdAdd (qVar 20) (qC (.int 1))) qNil)))) (qCons (qTup (qCons (qTup (qCons (qBin rdAdd (qIxK 0 (qVar 18)) (qC (.int 2))) (qCons (qIxK 1 (qVar 18)) qNil))) (qCons (qVar 19) (qCons (qVar 20) qNil)))) (qCons (qTup (qCons (qVar 18) (qCons (qTup (qCons (qBin rdAdd (qIxK 0 (qVar 19)) (qC (.int 1))) (qCons (qIxK 1 (qVar 19)) qNil))) (qCons (qVar 20) qNil)))) qNil)))))) (qgName 21) (qDrop (qMet rdApp (qVar 16) (qCons (qTup (qCons (qC (.str "never")) (qCons (qBin rdAdd (qVar 8) (qC (.int 1))) (qCons (qBin rdAdd (qBin rdAdd (qSl (qVar 15) qNoPart (qPart (qVar 17))) (qTup (qCons (qVar 21) qNil))) (qSl (qVar 15) (qPart (qBin rdAdd (qVar 17) (qC (.int 1)))) qNoPart)) qNil)))) qNil)))) (rd_law_4 C_Web s__law_begun s__law_take s__law_wished_rows s__law_pick s__law_shuffled s__law_far_ring s__law_is_far_ring s__law_says s_is_lasting_paper))
def rd_law_6 (C_Web : Addr) (s__law_begun : Spd) (s__law_take : Spd) (s__law_wished_rows : Spd) (s__law_pick : Spd) (s__law_shuffled : Spd) (s__law_far_ring : Spd) (s__law_is_far_ring : Spd) (s__law_says : Spd) (s_is_lasting_paper : Spd) : TSd := (qSeq (qAsg (qBin rdIx (qVar 15) (qVar 17)) (qgTup 3 (qgCons (qgName 18) (qgCons (qgName 19) (qgCons (qgName 20) qgNil))))) (rd_law_5 C_Web s__law_begun s__law_take s__law_wished_rows s__law_pick s__law_shuffled s__law_far_ring s__law_is_far_ring s__law_says s_is_lasting_paper))
def rd_law_7 (C_Web : Addr) (s__law_begun : Spd) (s__law_take : Spd) (s__law_wished_rows : Spd) (s__law_pick : Spd) (s__law_shuffled : Spd) (s__law_far_ring : Spd) (s__law_is_far_ring : Spd) (s__law_says : Spd) (s_is_lasting_paper : Spd) : TSd := (qSeq (qAsg (qCall s__law_take (qCons (qVar 1) (qCons (qCB rdLen (qCons (qVar 15) qNil)) qNil))) (qgName 17)) (rd_law_6 C_Web s__law_begun s__law_take s__law_wished_rows s__law_pick s__law_shuffled s__law_far_ring s__law_is_far_ring s__law_says s_is_lasting_paper))
def rd_law_8 (C_Web : Addr) (s__law_begun : Spd) (s__law_take : Spd) (s__law_wished_rows : Spd) (s__law_pick : Spd) (s__law_shuffled : Spd) (s__law_far_ring : Spd) (s__law_is_far_ring : Spd) (s__law_says : Spd) (s_is_lasting_paper : Spd) : TSd := (qSeq (qAsg (qLst (qCons (qTup (qCons (qC (.str "never")) (qCons (qBin rdAdd (qVar 8) (qC (.int 1))) (qCons (qVar 15) qNil)))) (qCons (qTup (qCons (qC (.str "never")) (qCons (qBin rdAdd (qVar 8) (qC (.int 2))) (qCons (qVar 15) qNil)))) (qCons (qTup (qCons (qC (.str "never")) (qCons (qVar 8) (qCons (qVar 15) qNil)))) (qCons (qTup (qCons (qC (.str "never")) (qCons (qBin rdAdd (qVar 8) (qC (.int 4))) (qCons (qVar 15) qNil)))) (qCons (qTup (qCons (qC (.str "never")) (qCons (qBin rdAdd (qVar 8) (qC (.int 1))) (qCons (qBin rdAdd (qSl (qVar 15) (qPart (qC (.int 1))) qNoPart) (qSl (qVar 15) qNoPart (qPart (qC (.int 1))))) qNil)))) (qCons (qTup (qCons (qC (.str "never")) (qCons (qBin rdAdd (qVar 8) (qC (.int 1))) (qCons (qBin rdAdd (qVar 15) (qVar 15)) qNil)))) qNil))))))) (qgName 16)) (rd_law_7 C_Web s__law_begun s__law_take s__law_wished_rows s__law_pick s__law_shuffled s__law_far_ring s__law_is_far_ring s__law_says s_is_lasting_paper))
def rd_law_9 (C_Web : Addr) (s__law_begun : Spd) (s__law_take : Spd) (s__law_wished_rows : Spd) (s__law_pick : Spd) (s__law_shuffled : Spd) (s__law_far_ring : Spd) (s__law_is_far_ring : Spd) (s__law_says : Spd) (s_is_lasting_paper : Spd) : TSd := (qSeq (qAsg (qCall s__law_far_ring (qCons (qVar 3) (qCons (qVar 9) (qCons (qVar 12) (qCons (qVar 14) qNil))))) (qgName 15)) (rd_law_8 C_Web s__law_begun s__law_take s__law_wished_rows s__law_pick s__law_shuffled s__law_far_ring s__law_is_far_ring s__law_says s_is_lasting_paper))
def rd_law_10 (C_Web : Addr) (s__law_begun : Spd) (s__law_take : Spd) (s__law_wished_rows : Spd) (s__law_pick : Spd) (s__law_shuffled : Spd) (s__law_far_ring : Spd) (s__law_is_far_ring : Spd) (s__law_says : Spd) (s_is_lasting_paper : Spd) : TSd := (qSeq (qSwap2 13 14 (qTup (qCons (qTup (qCons (qC (.str "motif")) (qCons (qVar 3) (qCons (qVar 5) qNil)))) (qCons (qBin rdAdd (qBin rMulA (qBin rMulA (qVar 8) (qC (.int 2))) (qVar 4)) (qVar 7)) qNil)))) (rd_law_9 C_Web s__law_begun s__law_take s__law_wished_rows s__law_pick s__law_shuffled s__law_far_ring s__law_is_far_ring s__law_says s_is_lasting_paper))
def rd_law_11 (C_Web : Addr) (s__law_begun : Spd) (s__law_take : Spd) (s__law_wished_rows : Spd) (s__law_pick : Spd) (s__law_shuffled : Spd) (s__law_far_ring : Spd) (s__law_is_far_ring : Spd) (s__law_says : Spd) (s_is_lasting_paper : Spd) : TSd := (qSeq (qAsg (qCB rdTuple (qCons (qLc (qRng1 (qCons (qVar 3) qNil)) (qgName 24) qYes (qCB rdToInt (qCons (qBin (rdInLst id) (qVar 24) (qVar 11)) qNil)) [24]) qNil)) (qgName 12)) (rd_law_10 C_Web s__law_begun s__law_take s__law_wished_rows s__law_pick s__law_shuffled s__law_far_ring s__law_is_far_ring s__law_says s_is_lasting_paper))
def rd_law_12 (C_Web : Addr) (s__law_begun : Spd) (s__law_take : Spd) (s__law_wished_rows : Spd) (s__law_pick : Spd) (s__law_shuffled : Spd) (s__law_far_ring : Spd) (s__law_is_far_ring : Spd) (s__law_says : Spd) (s_is_lasting_paper : Spd) : TSd := (qSeq (qAsg (qSl (qCall s__law_shuffled (qCons (qVar 1) (qCons (qListR (qRg1 (qCons (qVar 3) qNil))) qNil))) qNoPart (qPart (qCB (rdI2 fun i j => max i j) (qCons (qC (.int 0)) (qCons (qBin rSubD (qVar 10) (qCall s__law_take (qCons (qVar 1) (qCons (qC (.int 3)) qNil)))) qNil))))) (qgName 11)) (rd_law_11 C_Web s__law_begun s__law_take s__law_wished_rows s__law_pick s__law_shuffled s__law_far_ring s__law_is_far_ring s__law_says s_is_lasting_paper))
def rd_law_13 (C_Web : Addr) (s__law_begun : Spd) (s__law_take : Spd) (s__law_wished_rows : Spd) (s__law_pick : Spd) (s__law_shuffled : Spd) (s__law_far_ring : Spd) (s__law_is_far_ring : Spd) (s__law_says : Spd) (s_is_lasting_paper : Spd) : TSd := (qSeq (qAsg (qCB rdSum (qCons (qLc (qSeqI (qVar 9)) (qgName 21) qYes (qIf (qB (qIsi "tuple" (qVar 21))) (qCB rdSum (qCons (qVar 21) qNil)) (qIf (qB (qBin rdEq (qVar 21) (qC (.int 1)))) (qC (.int 1)) (qC (.int 0)))) [21]) qNil)) (qgName 10)) (rd_law_12 C_Web s__law_begun s__law_take s__law_wished_rows s__law_pick s__law_shuffled s__law_far_ring s__law_is_far_ring s__law_says s_is_lasting_paper))
def rd_law_14 (C_Web : Addr) (s__law_begun : Spd) (s__law_take : Spd) (s__law_wished_rows : Spd) (s__law_pick : Spd) (s__law_shuffled : Spd) (s__law_far_ring : Spd) (s__law_is_far_ring : Spd) (s__law_says : Spd) (s_is_lasting_paper : Spd) : TSd := (qSeq (qAsg (qBin rdIx (qVar 5) (qVar 7)) (qgName 9)) (rd_law_13 C_Web s__law_begun s__law_take s__law_wished_rows s__law_pick s__law_shuffled s__law_far_ring s__law_is_far_ring s__law_says s_is_lasting_paper))
def rd_law_15 (C_Web : Addr) (s__law_begun : Spd) (s__law_take : Spd) (s__law_wished_rows : Spd) (s__law_pick : Spd) (s__law_shuffled : Spd) (s__law_far_ring : Spd) (s__law_is_far_ring : Spd) (s__law_says : Spd) (s_is_lasting_paper : Spd) : TSd := (qSeq (qAsg (qIf (qB (qBin rdEq (qBin rdAdd (qVar 7) (qVar 8)) (qC (.int 0)))) (qC (.int 1)) (qVar 8)) (qgName 8)) (rd_law_14 C_Web s__law_begun s__law_take s__law_wished_rows s__law_pick s__law_shuffled s__law_far_ring s__law_is_far_ring s__law_says s_is_lasting_paper))
def rd_law_16 (C_Web : Addr) (s__law_begun : Spd) (s__law_take : Spd) (s__law_wished_rows : Spd) (s__law_pick : Spd) (s__law_shuffled : Spd) (s__law_far_ring : Spd) (s__law_is_far_ring : Spd) (s__law_says : Spd) (s_is_lasting_paper : Spd) : TSd := (qSeq (qSwap2 7 8 (qTup (qCons (qBin rMulA (qC (.int 2)) (qCall s__law_take (qCons (qVar 1) (qCons (qVar 4) qNil)))) (qCons (qCall s__law_pick (qCons (qVar 1) (qCons (qLst (qCons (qC (.int 0)) (qCons (qC (.int 1)) (qCons (qBin rSubD (qVar 6) (qC (.int 1))) (qCons (qCall s__law_take (qCons (qVar 1) (qCons (qVar 6) qNil))) qNil))))) qNil))) qNil)))) (rd_law_15 C_Web s__law_begun s__law_take s__law_wished_rows s__law_pick s__law_shuffled s__law_far_ring s__law_is_far_ring s__law_says s_is_lasting_paper))
def rd_law_17 (C_Web : Addr) (s__law_begun : Spd) (s__law_take : Spd) (s__law_wished_rows : Spd) (s__law_pick : Spd) (s__law_shuffled : Spd) (s__law_far_ring : Spd) (s__law_is_far_ring : Spd) (s__law_says : Spd) (s_is_lasting_paper : Spd) : TSd := (qSeq (qAsg (qCB (rdI2 fun i j => max i j) (qCons (qC (.int 2)) (qCons (qBin rFdiv (qC (.int 150)) (qVar 4)) qNil))) (qgName 6)) (rd_law_16 C_Web s__law_begun s__law_take s__law_wished_rows s__law_pick s__law_shuffled s__law_far_ring s__law_is_far_ring s__law_says s_is_lasting_paper))
def rd_law_18 (C_Web : Addr) (s__law_begun : Spd) (s__law_take : Spd) (s__law_wished_rows : Spd) (s__law_pick : Spd) (s__law_shuffled : Spd) (s__law_far_ring : Spd) (s__law_is_far_ring : Spd) (s__law_says : Spd) (s_is_lasting_paper : Spd) : TSd := (qSeq (qAsg (qCall s__law_wished_rows (qCons (qVar 1) (qCons (qVar 3) (qCons (qBin rMulA (qC (.int 2)) (qVar 4)) (qCons (qCall s__law_pick (qCons (qVar 1) (qCons (qLst (qCons (qC (.int 2)) (qCons (qC (.int 5)) qNil))) qNil))) qNil))))) (qgName 5)) (rd_law_17 C_Web s__law_begun s__law_take s__law_wished_rows s__law_pick s__law_shuffled s__law_far_ring s__law_is_far_ring s__law_says s_is_lasting_paper))
def rd_law_19 (C_Web : Addr) (s__law_begun : Spd) (s__law_take : Spd) (s__law_wished_rows : Spd) (s__law_pick : Spd) (s__law_shuffled : Spd) (s__law_far_ring : Spd) (s__law_is_far_ring : Spd) (s__law_says : Spd) (s_is_lasting_paper : Spd) : TSd := (qSeq (qSwap2 3 4 (qTup (qCons (qBin rdAdd (qC (.int 3)) (qCall s__law_take (qCons (qVar 1) (qCons (qC (.int 7)) qNil)))) (qCons (qBin rdAdd (qC (.int 1)) (qCall s__law_take (qCons (qVar 1) (qCons (qC (.int 30)) qNil)))) qNil)))) (rd_law_18 C_Web s__law_begun s__law_take s__law_wished_rows s__law_pick s__law_shuffled s__law_far_ring s__law_is_far_ring s__law_says s_is_lasting_paper))
def rd_law_20 (C_Web : Addr) (s__law_begun : Spd) (s__law_take : Spd) (s__law_wished_rows : Spd) (s__law_pick : Spd) (s__law_shuffled : Spd) (s__law_far_ring : Spd) (s__law_is_far_ring : Spd) (s__law_says : Spd) (s_is_lasting_paper : Spd) : TSd := (qRet (qC (.bl true)))
def rd_law_21 (C_Web : Addr) (s__law_begun : Spd) (s__law_take : Spd) (s__law_wished_rows : Spd) (s__law_pick : Spd) (s__law_shuffled : Spd) (s__law_far_ring : Spd) (s__law_is_far_ring : Spd) (s__law_says : Spd) (s_is_lasting_paper : Spd) : TSd := (qSeq (qFor (qRng1 (qCons (qBin rdAdd (qC (.int 1)) (qCB (rdI2 fun i j => min i j) (qCons (qCB rdLen (qCons (qVar 0) qNil)) (qCons (qC (.int 2)) qNil)))) qNil)) (qgName 2) (rd_law_19 C_Web s__law_begun s__law_take s__law_wished_rows s__law_pick s__law_shuffled s__law_far_ring s__law_is_far_ring s__law_says s_is_lasting_paper)) (rd_law_20 C_Web s__law_begun s__law_take s__law_wished_rows s__law_pick s__law_shuffled s__law_far_ring s__law_is_far_ring s__law_says s_is_lasting_paper))
def rd_law (C_Web : Addr) (s__law_begun : Spd) (s__law_take : Spd) (s__law_wished_rows : Spd) (s__law_pick : Spd) (s__law_shuffled : Spd) (s__law_far_ring : Spd) (s__law_is_far_ring : Spd) (s__law_says : Spd) (s_is_lasting_paper : Spd) : TSd := (qSeq (qAsg (qCall s__law_begun (qCons (qVar 0) qNil)) (qgName 1)) (rd_law_21 C_Web s__law_begun s__law_take s__law_wished_rows s__law_pick s__law_shuffled s__law_far_ring s__law_is_far_ring s__law_says s_is_lasting_paper))
def sp_law (C_Web : Addr) : Spd := spB 25 1 (rd_law C_Web (sp__law_begun) (sp__law_take) (sp__law_wished_rows) (sp__law_pick) (sp__law_shuffled) (sp__law_far_ring) (sp__law_is_far_ring) (sp__law_says) (sp_is_lasting_paper C_Web))
theorem bd_law (T : Txt K mg C_Web) {f : Addr} {s__law_begun : Spd} (d__law_begun : DefQ P w K mg base 1 "_law_begun" s__law_begun) {s__law_take : Spd} (d__law_take : DefQ P w K mg base 2 "_law_take" s__law_take) {s__law_wished_rows : Spd} (d__law_wished_rows : DefQ P w K mg base 4 "_law_wished_rows" s__law_wished_rows) {s__law_pick : Spd} (d__law_pick : DefQ P w K mg base 3 "_law_pick" s__law_pick) {s__law_shuffled : Spd} (d__law_shuffled : DefQ P w K mg base 3 "_law_shuffled" s__law_shuffled) {s__law_far_ring : Spd} (d__law_far_ring : DefQ P w K mg base 2 "_law_far_ring" s__law_far_ring) {s__law_is_far_ring : Spd} (d__law_is_far_ring : DefQ P w K mg base 4 "_law_is_far_ring" s__law_is_far_ring) {s__law_says : Spd} (d__law_says : DefQ P w K mg base 1 "_law_says" s__law_says) {s_is_lasting_paper : Spd} (d_is_lasting_paper : DefQ P w K mg base 7 "is_lasting_paper" s_is_lasting_paper) : BodyQ P w K mg base 7 f "law" st_law N_law (rd_law C_Web s__law_begun s__law_take s__law_wished_rows s__law_pick s__law_shuffled s__law_far_ring s__law_is_far_ring s__law_says s_is_lasting_paper) := fun cdv A outer s H E hr => by
  have hu := hu64 hr
  have hu5 := hu65 hr
  exact (qss_cons (qs_set (i := 1) sc_law.nd (q_call d__law_begun hr (qa_cons (qv 0) qa_nil)))
      (qss_cons (qs_for PassesOwn.never rfl (qi_range1 rfl T.b_range (qa_cons (q_op oq_add q_int (q_callB (cq_min2 rfl) rfl T.b_min (by decide +kernel) (qa_cons (q_callB cq_len rfl T.b_len (by decide +kernel) (qa_cons (qv 0) qa_nil)) (qa_cons q_int qa_nil)))) qa_nil)) (qg_name (i := 2) sc_law.nd) (qss_cons (qs_swap2 (i := 3) (j := 4) rfl sc_law.nd (q_tup (qa_cons (q_op oq_add q_int (q_call d__law_take hr (qa_cons (qv 1) (qa_cons q_int qa_nil)))) (qa_cons (q_op oq_add q_int (q_call d__law_take hr (qa_cons (qv 1) (qa_cons q_int qa_nil)))) qa_nil))))
      (qss_cons (qs_set (i := 5) sc_law.nd (q_call d__law_wished_rows hr (qa_cons (qv 1) (qa_cons (qv 3) (qa_cons (q_op oq_mulA q_int (qv 4)) (qa_cons (q_call d__law_pick hr (qa_cons (qv 1) (qa_cons (q_lst (qa_cons q_int (qa_cons q_int qa_nil))) qa_nil))) qa_nil))))))
      (qss_cons (qs_set (i := 6) sc_law.nd (q_callB (cq_max2 rfl) rfl T.b_max (by decide +kernel) (qa_cons q_int (qa_cons (q_op oq_fdiv q_int (qv 4)) qa_nil))))
      (qss_cons (qs_swap2 (i := 7) (j := 8) rfl sc_law.nd (q_tup (qa_cons (q_op oq_mulA q_int (q_call d__law_take hr (qa_cons (qv 1) (qa_cons (qv 4) qa_nil)))) (qa_cons (q_call d__law_pick hr (qa_cons (qv 1) (qa_cons (q_lst (qa_cons q_int (qa_cons q_int (qa_cons (q_op oq_sub (qv 6) q_int) (qa_cons (q_call d__law_take hr (qa_cons (qv 1) (qa_cons (qv 6) qa_nil))) qa_nil))))) qa_nil))) qa_nil))))
      (qss_cons (qs_set (i := 8) sc_law.nd (q_if (qt_cmp (oq_eq hu) (q_op oq_add (qv 7) (qv 8)) q_int) q_int (qv 8)))
      (qss_cons (qs_set (i := 9) sc_law.nd (q_ix (qv 5) (qv 7)))
      (qss_cons (qs_set (i := 10) sc_law.nd (q_callB (cq_sum rfl) rfl T.b_sum (by decide +kernel) (qa_cons (q_lc (own := [("wish", 21)]) cg_name tgm_name rfl sc_law.nd (qi_seq (qv 9)) (blkOk_by (by kernel_rfl)) (fun _ _ _ _ _ => (pg_name (i := 21) sc_law.nd rfl (by first | exact .inl rfl | exact .inr rfl))) (fun _ _ _ _ _ => qts_nil) (fun _ _ _ _ _ => (q_if (qt_val (q_isi rfl T.b_isinstance rfl T.b_tuple (by decide +kernel) (qv 21))) (q_callB (cq_sum rfl) rfl T.b_sum (by decide +kernel) (qa_cons (qv 21) qa_nil)) (q_if (qt_cmp (oq_eq hu) (qv 21) q_int) q_int q_int)))) qa_nil)))
      (qss_cons (qs_set (i := 11) sc_law.nd (q_slice (q_call d__law_shuffled hr (qa_cons (qv 1) (qa_cons (q_listR rfl rfl T.b_list (rgx1 rfl T.b_range (qa_cons (qv 3) qa_nil))) qa_nil))) qo_none (qo_some (q_callB (cq_max2 rfl) rfl T.b_max (by decide +kernel) (qa_cons q_int (qa_cons (q_op oq_sub (qv 10) (q_call d__law_take hr (qa_cons (qv 1) (qa_cons q_int qa_nil)))) qa_nil))))))
      (qss_cons (qs_set (i := 12) sc_law.nd (q_callTy cq_tuple rfl T.b_tuple (by decide +kernel) (qa_cons (q_lc (own := [("p", 24)]) cg_name tgm_name rfl sc_law.nd (qi_range1 rfl T.b_range (qa_cons (qv 3) qa_nil)) (blkOk_by (by kernel_rfl)) (fun _ _ _ _ _ => (pg_name (i := 24) sc_law.nd rfl (by first | exact .inl rfl | exact .inr rfl))) (fun _ _ _ _ _ => qts_nil) (fun _ _ _ _ _ => (q_callTy cq_int rfl T.b_int (by decide +kernel) (qa_cons (q_cmp (hm := by rfl) (oq_inL hu5) (qv 24) (qv 11)) qa_nil)))) qa_nil)))
      (qss_cons (qs_swap2 (i := 13) (j := 14) rfl sc_law.nd (q_tup (qa_cons (q_tup (qa_cons q_str (qa_cons (qv 3) (qa_cons (qv 5) qa_nil)))) (qa_cons (q_op oq_add (q_op oq_mulA (q_op oq_mulA (qv 8) q_int) (qv 4)) (qv 7)) qa_nil))))
      (qss_cons (qs_set (i := 15) sc_law.nd (q_call d__law_far_ring hr (qa_cons (qv 3) (qa_cons (qv 9) (qa_cons (qv 12) (qa_cons (qv 14) qa_nil))))))
      (qss_cons (qs_set (i := 16) sc_law.nd (q_lst (qa_cons (q_tup (qa_cons q_str (qa_cons (q_op oq_add (qv 8) q_int) (qa_cons (qv 15) qa_nil)))) (qa_cons (q_tup (qa_cons q_str (qa_cons (q_op oq_add (qv 8) q_int) (qa_cons (qv 15) qa_nil)))) (qa_cons (q_tup (qa_cons q_str (qa_cons (qv 8) (qa_cons (qv 15) qa_nil)))) (qa_cons (q_tup (qa_cons q_str (qa_cons (q_op oq_add (qv 8) q_int) (qa_cons (qv 15) qa_nil)))) (qa_cons (q_tup (qa_cons q_str (qa_cons (q_op oq_add (qv 8) q_int) (qa_cons (q_op oq_add (q_slice (qv 15) (qo_some q_int) qo_none) (q_slice (qv 15) qo_none (qo_some q_int))) qa_nil)))) (qa_cons (q_tup (qa_cons q_str (qa_cons (q_op oq_add (qv 8) q_int) (qa_cons (q_op oq_add (qv 15) (qv 15)) qa_nil)))) qa_nil))))))))
      (qss_cons (qs_set (i := 17) sc_law.nd (q_call d__law_take hr (qa_cons (qv 1) (qa_cons (q_callB cq_len rfl T.b_len (by decide +kernel) (qa_cons (qv 15) qa_nil)) qa_nil))))
      (qss_cons (qs_asg (q_ix (qv 15) (qv 17)) (qg_tup rfl (qgs_cons (qg_name (i := 18) sc_law.nd) (qgs_cons (qg_name (i := 19) sc_law.nd) (qgs_cons (qg_name (i := 20) sc_law.nd) qgs_nil)))))
      (qss_cons (qs_for PassesOwn.never rfl (qi_seq (q_lst (qa_cons (q_tup (qa_cons (qv 18) (qa_cons (qv 19) (qa_cons (q_op oq_sub (qv 20) q_int) qa_nil)))) (qa_cons (q_tup (qa_cons (qv 18) (qa_cons (qv 19) (qa_cons (q_op oq_add (qv 20) q_int) qa_nil)))) (qa_cons (q_tup (qa_cons (q_tup (qa_cons (q_op oq_add (q_ixk (k := 0) (qv 18)) q_int) (qa_cons (q_ixk (k := 1) (qv 18)) qa_nil))) (qa_cons (qv 19) (qa_cons (qv 20) qa_nil)))) (qa_cons (q_tup (qa_cons (qv 18) (qa_cons (q_tup (qa_cons (q_op oq_add (q_ixk (k := 0) (qv 19)) q_int) (qa_cons (q_ixk (k := 1) (qv 19)) qa_nil))) (qa_cons (qv 20) qa_nil)))) qa_nil)))))) (qg_name (i := 21) sc_law.nd) (qss_one (qs_expr (q_bm PySem.F.slot_list_append PySem.F.type_list_append mq_app (qv 16) (qa_cons (q_tup (qa_cons q_str (qa_cons (q_op oq_add (qv 8) q_int) (qa_cons (q_op oq_add (q_op oq_add (q_slice (qv 15) qo_none (qo_some (qv 17))) (q_tup (qa_cons (qv 21) qa_nil))) (q_slice (qv 15) (qo_some (q_op oq_add (qv 17) q_int)) qo_none)) qa_nil)))) qa_nil)))))
      (qss_cons (qs_for PassesOwn.never rfl (qi_seq (qv 16)) (qg_name (i := 22) sc_law.nd) (qss_cons (qs_set (i := 23) sc_law.nd (q_and (q_cmp oq_gt (q_ixk (k := 1) (qv 22)) q_int) (q_one (q_call d__law_is_far_ring hr (qa_cons (qv 3) (qa_cons (qv 5) (qa_cons (qv 12) (qa_cons (qv 22) qa_nil))))))))
      (qss_one (qs_if (qt_not (qt_val (q_call d__law_says hr (qa_cons (q_call d_is_lasting_paper hr (qa_cons (qv 13) (qa_cons (qv 12) (qa_cons (qv 22) qa_nil)))) (qa_cons (qv 23) qa_nil))))) (qss_one (qs_ret q_bl)) qss_nil))))
      (qss_one (qs_if (qt_cmp (oq_ne hu) (q_call d__law_is_far_ring hr (qa_cons (qv 3) (qa_cons (qv 5) (qa_cons (qv 12) (qa_cons (q_ixk (k := 0) (qv 16)) qa_nil))))) (q_cmp oq_lt (q_callB cq_len rfl T.b_len (by decide +kernel) (qa_cons (qv 11) qa_nil)) (qv 10))) (qss_one (qs_ret q_bl)) qss_nil)))))))))))))))))))
      (qss_one (qs_ret q_bl))))
end
end K59
end
section
set_option Elab.async false
set_option linter.all false
set_option maxRecDepth 100000
set_option maxHeartbeats 4000000
namespace K59
open PySem PySem.Spec PyProof.Rows L2 TL

/-! ### the drawing -/
def drw (w c : Addr) (r t : Int) : List (D × D) := [(.str "wide", .ref w), (.str "cells", .ref c), (.str "rest", .int r), (.str "turn", .int t)]
theorem get_wide {w c : Addr} {r t : Int} : dget (drw w c r t) (.str "wide") = some (.ref w) := by kernel_rfl
theorem get_cells {w c : Addr} {r t : Int} : dget (drw w c r t) (.str "cells") = some (.ref c) := by kernel_rfl
theorem get_rest {w c : Addr} {r t : Int} : dget (drw w c r t) (.str "rest") = some (.int r) := by kernel_rfl
theorem get_turn {w c : Addr} {r t : Int} : dget (drw w c r t) (.str "turn") = some (.int t) := by kernel_rfl
theorem put_rest {w c : Addr} {r t x : Int} : dput (drw w c r t) (.str "rest") (.int x) = drw w c x t := by kernel_rfl
theorem put_turn {w c : Addr} {r t x : Int} : dput (drw w c r t) (.str "turn") (.int x) = drw w c r x := by kernel_rfl
theorem drw_len {w c : Addr} {r t : Int} : (drw w c r t).length < 1000 := by show 4 < 1000; decide
structure Dr (a w c : Addr) (n : Nat) (G : Gp) : Prop where
  ex : ∃ (ws cs : List Int) (r t : Int), G a = some (.dct (drw w c r t)) ∧ G w = some (.lst (ws.map .int)) ∧ G c = some (.lst (cs.map .int)) ∧ 0 ≤ t ∧ t ≤ n
  ne : w ≠ c
/-- all but the drawing's own is as it was -/
def Fr (a w : Addr) (G G' : Gp) : Prop := ∀ x o, x ≠ a → x ≠ w → G x = some o → G' x = some o
theorem Fr.refl (a w : Addr) (G : Gp) : Fr a w G G := fun _ _ _ _ h => h
theorem Fr.trans {a w : Addr} {G G1 G2 : Gp} (h : Fr a w G G1) (h' : Fr a w G1 G2) : Fr a w G G2 := fun x o n m e => h' x o n m (h x o n m e)
theorem Fr.same {a w : Addr} {G G' : Gp} (h : GSame G G') : Fr a w G G' := fun x o _ _ e => h x o e
theorem Dr.same {a w c : Addr} {n : Nat} {G G' : Gp} (d : Dr a w c n G) (h : GSame G G') : Dr a w c n G' := by
  obtain ⟨ws, cs, r, t, h1, h2, h3, h4⟩ := d.ex
  exact ⟨⟨ws, cs, r, t, h _ _ h1, h _ _ h2, h _ _ h3, h4⟩, d.ne⟩
theorem Dr.mono {a w c : Addr} {n m : Nat} {G : Gp} (d : Dr a w c n G) (h : n ≤ m) : Dr a w c m G := by
  obtain ⟨ws, cs, r, t, h1, h2, h3, h4, h5⟩ := d.ex
  exact ⟨⟨ws, cs, r, t, h1, h2, h3, h4, by omega⟩, d.ne⟩
theorem Dr.new {a w c p : Addr} {n : Nat} {G : Gp} {o : O} (d : Dr a w c n G) (h : G p = none) : Dr a w c n (gup G p o) := d.same (GSame.new h)
theorem Dr.off {a w c p : Addr} {n : Nat} {G : Gp} (d : Dr a w c n G) (h : G p = none) : p ≠ a ∧ p ≠ w ∧ p ≠ c := by
  obtain ⟨ws, cs, r, t, h1, h2, h3, h4⟩ := d.ex
  exact ⟨(gne_none h1 h).symm, (gne_none h2 h).symm, (gne_none h3 h).symm⟩
/-- another object is written -/
theorem Dr.put {a w c p : Addr} {n : Nat} {G : Gp} {o : O} (d : Dr a w c n G) (h : p ≠ a ∧ p ≠ w ∧ p ≠ c) : Dr a w c n (gup G p o) := by
  obtain ⟨ws, cs, r, t, h1, h2, h3, h4⟩ := d.ex
  exact ⟨⟨ws, cs, r, t, by rw [gup_ne h.1.symm]; exact h1, by rw [gup_ne h.2.1.symm]; exact h2, by rw [gup_ne h.2.2.symm]; exact h3, h4⟩, d.ne⟩
theorem ints_get {cs : List Int} {i : Nat} {d : D} (h : (cs.map D.int)[i]? = some d) : ∃ z, d = .int z ∧ cs[i]? = some z := by
  rw [List.getElem?_map] at h
  cases e : cs[i]? with
  | none => rw [e] at h; cases h
  | some z => rw [e] at h; exact ⟨z, (Option.some.inj h).symm, rfl⟩
abbrev primes : List Int := [2147483647, 2147483629, 2147483587, 2147483579]
theorem le2 {a b : D} : [a, b].length ≤ 1000 := by show 2 ≤ 1000; decide
theorem le3 {a b c : D} : [a, b, c].length ≤ 1000 := by show 3 ≤ 1000; decide
theorem mixed_ok {a w c : Addr} {n : Nat} {G : Gp} {Q : KD} (d : Dr a w c n G) (hn : n ≤ 1000000000) (k : ∀ z G', Dr a w c (n + 1) G' → Fr a w G G' → Q (.int z) G') : sp__law_mixed [.ref a] G Q := by
  obtain ⟨ws, cs, r, t, h1, h2, h3, h4, h5⟩ := d.ex
  have aw : a ≠ w := gne_of h1 h2 (by intro z; cases z)
  have ac : a ≠ c := gne_of h1 h3 (by intro z; cases z)
  have d1 : Dr a w c (n + 1) (gup G a (.dct (drw w c r (t + 1)))) := ⟨⟨ws, cs, r, t + 1, gup_same, by rw [gup_ne aw.symm]; exact h2, by rw [gup_ne ac.symm]; exact h3, by omega, by omega⟩, d.ne⟩
  have f1 : Fr a w G (gup G a (.dct (drw w c r (t + 1)))) := fun x o n _ e => by rw [gup_ne n]; exact e
  refine ⟨rfl, _, h1, rfl, _, get_turn, le2, _, h1, rfl, drw_len, ?_⟩
  rw [put_turn]
  generalize gup G a (.dct (drw w c r (t + 1))) = G1 at d1 f1 ⊢
  -- for prime in [..]
  refine ⟨(by decide), fun p hp => ?_⟩
  have d2 := d1.new (o := .lst (primes.map D.int)) hp
  have f2 : Fr a w G (gup G1 p (.lst (primes.map D.int))) := f1.trans (.same (.new hp))
  refine ⟨primes.map D.int, gup_same, fun i ρ G' => ∃ f x y z, ρ = [some (.ref a), some (.int (t + 1)), some (.int f), x, y, z] ∧ G' = gup G1 p (.lst (primes.map D.int)), ⟨0, none, none, none, rfl, rfl⟩, ?_, ?_, ?_⟩
  · rintro i ρ G' ⟨f, x, y, z, rfl, rfl⟩ _
    exact ⟨gup_same, trivial⟩
  · rintro i x ρ G' ex ⟨f, x', y, z, rfl, rfl⟩
    obtain ⟨q, rfl, eq⟩ := ints_get ex
    have hq : q ∈ primes := List.mem_of_getElem? eq
    have hq2 : 2147483579 ≤ q ∧ q ≤ 2147483647 := by
      simp [primes] at hq; omega
    obtain ⟨ws', cs', r', t', e1, e2, e3, e4, e5⟩ := d2.ex
    have hdiv : CDivW q 37 := ⟨by decide, by decide⟩
    have hm1 : CM 48271 (t + 1) := .inl (.inl ⟨by decide, by decide⟩)
    refine ⟨hm1, hdiv, ?_⟩
    have hb0 : 0 ≤ 48271 * (t + 1) + q / 37 ∧ 48271 * (t + 1) + q / 37 < 2 ^ 64 := by omega
    refine ⟨_, e1, rfl, _, get_cells, cs'.map D.int, e3, fun j ρ G' => ∃ b z, 0 ≤ b ∧ b < 2 ^ 64 ∧ ρ = [some (.ref a), some (.int (t + 1)), some (.int f), some (.int q), some (.int b), z] ∧ G' = gup G1 p (.lst (primes.map D.int)), ⟨_, z, hb0.1, hb0.2, rfl, rfl⟩, ?_, ?_, ?_⟩
    · rintro j ρ G' ⟨b, z, _, _, rfl, rfl⟩ _
      exact ⟨e3, trivial⟩
    · rintro j x ρ G' ex ⟨b, z, hb1, hb2, rfl, rfl⟩
      obtain ⟨g, rfl, _⟩ := ints_get ex
      have hm2 : CM b 69621 := .inl (.inr ⟨by decide, by decide⟩)
      have hq3 : 0 < q := by omega
      exact ⟨hm2, hq3, _, _, Int.emod_nonneg _ (by omega), Int.lt_of_lt_of_le (Int.emod_lt_of_pos _ hq3) (by omega), rfl, rfl⟩
    · rintro ρ G' ⟨b, z, hb1, hb2, rfl, rfl⟩
      have hm3 : CM f 2147483647 := .inl (.inr ⟨by decide, by decide⟩)
      have hp5 : CPow b 5 := ⟨by decide, by decide, by omega⟩
      have hq3 : 0 < q := by omega
      exact ⟨hm3, hp5, hq3, _, _, _, _, rfl, rfl⟩
  · rintro ρ G' ⟨f, x, y, z, rfl, rfl⟩
    exact k f _ d2 f2
theorem log_small {m : Nat} (h : m < 1000000) : m.log2 < 9000 := by
  by_cases z : m = 0
  · subst z; decide
  · exact Nat.lt_of_lt_of_le ((Nat.log2_lt z).mpr (Nat.lt_of_lt_of_le h (by decide : 1000000 ≤ 2 ^ 20))) (by decide)
theorem okL_ints (ns : List Int) : okL (ns.map .int) := by
  have h : ∀ ns : List Int, D.flats (ns.map .int) = true ∧ D.deps (ns.map .int) = 0 := by
    intro ns
    induction ns with
    | nil => exact ⟨rfl, rfl⟩
    | cons i r ih => simp [D.flats, D.flat, D.deps, D.dep, ih.1, ih.2]
  unfold okL
  rw [(h ns).1, (h ns).2]; rfl
/-- one number is taken from the drawing -/
def TakeOk (s : Spd) : Prop := ∀ {a w c : Addr} {n : Nat} {m : Int} {G : Gp} {Q : KD}, Dr a w c n G → n ≤ 1000000000 → 0 < m → m < 1000000 → (∀ z G', 0 ≤ z → z < m → Dr a w c (n + 1) G' → Fr a w G G' → Q (.int z) G') → s [.ref a, .int m] G Q
theorem take_ok : TakeOk sp__law_take := by
  intro a w c n m G Q d hn h0 h1 k
  obtain ⟨ws, cs, r, t, g1, g2, g3, g4, g5⟩ := d.ex
  have hdiv : ∀ r : Int, CDivW r m := fun r => ⟨h0, log_small (by omega)⟩
  refine ⟨rfl, ?_⟩
  -- behind the refill
  have fin : ∀ (G1 : Gp), Dr a w c (n + 1) G1 → Fr a w G G1 → (qSeq (qAsg (qBin rMod (qCB rdToInt (qCons (qBin rdLGet (qVar 0) (qC (.str "rest"))) qNil)) (qVar 1)) (qgName 2)) (qSeq (qLPut (qVar 0) (qC (.str "rest")) (qBin rFdiv (qBin rdLGet (qVar 0) (qC (.str "rest"))) (qVar 1))) (qRet (qVar 2)))) (endsD Q) (startD 3 [.ref a, .int m]) G1 := by
    intro G1 d1 f1
    obtain ⟨ws, cs, r, t, g1, g2, g3, g4, g5⟩ := d1.ex
    have aw : a ≠ w := gne_of g1 g2 (by intro z; cases z)
    have ac : a ≠ c := gne_of g1 g3 (by intro z; cases z)
    refine ⟨_, g1, rfl, _, get_rest, h0, _, g1, rfl, _, get_rest, hdiv r, _, g1, rfl, drw_len, ?_⟩
    rw [put_rest]
    refine k _ _ (Int.emod_nonneg _ (by omega)) (Int.emod_lt_of_pos _ h0) ⟨⟨ws, cs, r / m, t, gup_same, by rw [gup_ne aw.symm]; exact g2, by rw [gup_ne ac.symm]; exact g3, g4, g5⟩, d.ne⟩ (f1.trans fun x o n _ e => by rw [gup_ne n]; exact e)
  refine ⟨_, g1, rfl, _, get_rest, rfl, fun e => ?_, fun e => fin G (d.mono (by omega)) (Fr.refl _ _ _)⟩
  -- the refill
  refine ⟨_, g1, rfl, _, get_wide, (by decide), fun p hp => ?_⟩
  have d1 := d.new (o := .lst []) hp
  have off := d.off hp
  have q1 : gup G p (.lst []) a = some (.dct (drw w c r t)) := by rw [gup_ne off.1.symm]; exact g1
  have q2 : gup G p (.lst []) w = some (.lst (ws.map .int)) := by rw [gup_ne off.2.1.symm]; exact g2
  have q3 : gup G p (.lst []) c = some (.lst (cs.map .int)) := by rw [gup_ne off.2.2.symm]; exact g3
  have aw : a ≠ w := gne_of g1 g2 (by intro z; cases z)
  have ac : a ≠ c := gne_of g1 g3 (by intro z; cases z)
  refine ⟨_, _, q2, gup_same, okL_ints ws, rfl, fun e2 => ?_, fun e2 => ?_⟩
  · cases ws with
    | nil => exact absurd e2 (by decide)
    | cons z zs =>
      refine ⟨_, q1, rfl, _, get_wide, ⟨_, q2⟩, _, _, q2, by decide, by decide, rfl, _, by rw [gup_ne aw]; exact q1, rfl, drw_len, ?_⟩
      rw [put_rest]
      refine fin _ ⟨⟨zs, cs, z, t, gup_same, by rw [gup_ne aw.symm, gup_same]; rfl, by rw [gup_ne ac.symm, gup_ne d.ne.symm]; exact q3, g4, by omega⟩, d.ne⟩ ?_
      intro x o n1 n2 e
      rw [gup_ne n1, gup_ne n2, gup_ne (gne_none e hp)]
      exact e
  · refine mixed_ok d1 hn fun z G' d' f' => ?_
    obtain ⟨ws', cs', r', t', y1, y2, y3, y4, y5⟩ := d'.ex
    refine ⟨_, y1, rfl, drw_len, ?_⟩
    rw [put_rest]
    refine fin _ ⟨⟨ws', cs', z, t', gup_same, by rw [gup_ne aw.symm]; exact y2, by rw [gup_ne ac.symm]; exact y3, y4, y5⟩, d.ne⟩ ?_
    exact ((Fr.same (.new hp)).trans f').trans fun x o n1 _ e => by rw [gup_ne n1]; exact e
end K59
end
section
set_option Elab.async false
set_option linter.all false
set_option maxRecDepth 100000
set_option maxHeartbeats 4000000
namespace K59
open PySem PySem.Spec PyProof.Rows L2 TL
theorem filterMap_ints {f : D → Option D} {g : Int → Option Int} (h : ∀ z, f (.int z) = (g z).map .int) (ns : List Int) : (ns.map D.int).filterMap f = (ns.filterMap g).map .int := by
  induction ns with
  | nil => rfl
  | cons z r ih =>
    rw [List.map_cons, List.filterMap_cons, List.filterMap_cons, h, ih]
    cases g z <;> rfl
def wideF (z : Int) : Option Int := if 10 ^ 18 ≤ (z.natAbs : Int) then some ((z.natAbs : Int) - 10 ^ 18) else none
def liftF (g : Int → Option Int) : D → Option D
  | .int z => (g z).map .int
  | _ => none
theorem wide_t {z : Int} (e : (10 : Int) ^ 18 ≤ (z.natAbs : Int)) : liftF wideF (.int z) = some (.int ((z.natAbs : Int) - 10 ^ 18)) := by
  show Option.map D.int (wideF z) = _
  unfold wideF
  rw [if_pos e]; rfl
theorem wide_f {z : Int} (e : ¬ (10 : Int) ^ 18 ≤ (z.natAbs : Int)) : liftF wideF (.int z) = none := by
  show Option.map D.int (wideF z) = _
  unfold wideF
  rw [if_neg e]; rfl
theorem keys4 : (([.str "wide", .str "cells", .str "rest", .str "turn"] : List D)).Nodup := by decide +kernel
theorem begun_ok {ns : List Int} {G : Gp} {Q : KD} (hn : ns.length ≤ 63) (k : ∀ a w c G', GSame G G' → Dr a w c 0 G' → Q (.ref a) G') : sp__law_begun [.scr ns] G Q := by
  have hp : CPow 10 18 := ⟨by decide, by decide, by decide⟩
  refine ⟨rfl, ns.map .int, rfl, ?_⟩
  refine lc_pure (liftF wideF) ?_ ?_ ?_ ?_
  · trivial
  · rw [List.length_map]; omega
  · intro i d e G1 s1 K kk
    obtain ⟨z, rfl, _⟩ := ints_get e
    refine ⟨hp, fun e => ⟨hp, ?_⟩, fun e => ?_⟩
    · have := kk G1 (.refl _)
      rw [wide_t (of_decide_eq_true e)] at this
      exact this
    · have := kk G1 (.refl _)
      rw [wide_f (of_decide_eq_false e)] at this
      exact this
  intro w G1 hw s1 gw p hp2
  rw [filterMap_ints (g := wideF) (fun _ => rfl)] at gw
  -- the display
  refine ⟨ns.map .int, rfl, ?_⟩
  refine lc_pure (liftF fun z => some ((z.natAbs : Int) % 2147483629)) ?_ ?_ ?_ ?_
  · trivial
  · rw [List.length_map]; omega
  · intro i d e G2 s2 K kk
    obtain ⟨z, rfl, _⟩ := ints_get e
    exact ⟨fun _ => ⟨(show (0 : Int) < 2147483629 by decide), kk G2 (.refl _)⟩, fun e => nomatch e⟩
  intro c G2 hc s2 gc
  rw [filterMap_ints (g := fun z => some ((z.natAbs : Int) % 2147483629)) (fun _ => rfl)] at gc
  have nwp : w ≠ p := gne_none gw hp2
  have ncp : c ≠ p := fun e => by subst e; rw [gup_same] at hc; cases hc
  have gw2 : G2 w = some (.lst ((ns.filterMap wideF).map .int)) := s2 _ _ (by rw [gup_ne nwp]; exact gw)
  have nwc : w ≠ c := fun e => by subst e; rw [gup_ne nwp, gw] at hc; cases hc
  refine ⟨s2 _ _ gup_same, keys4, (show 4 ≤ 15 by decide), k p w c _ (fun x o e => ?_) ⟨⟨_, _, 0, 0, gup_same, by rw [gup_ne nwp]; exact gw2, by rw [gup_ne ncp]; exact gc, by omega, by omega⟩, nwc⟩⟩
  have h1 := s1 x o e
  have nx : x ≠ p := gne_none h1 hp2
  rw [gup_ne nx]
  exact s2 x o (by rw [gup_ne nx]; exact h1)
/-- an item of a list, or of a tuple -/
def PickOk (s : Spd) : Prop := ∀ {a w c : Addr} {n : Nat} {G : Gp} {x : D} {es : List D} {Q : KD}, Dr a w c n G → n ≤ 1000000000 → SeqOf G x es → (∀ p, x = .ref p → p ≠ a ∧ p ≠ w) → (∀ ns, x ≠ .scr ns) → 0 < es.length → es.length < 1000000 →
  (∀ (i : Nat) (e : D) (G' : Gp), es[i]? = some e → Dr a w c (n + 1) G' → Fr a w G G' → Q e G') → s [.ref a, x] G Q
theorem atI_of {es : List D} {z : Int} (h0 : 0 ≤ z) (h1 : z < es.length) : ∃ (i : Nat) (e : D), atI es z = some e ∧ es[i]? = some e := by
  have e : es[z.toNat]? = some es[z.toNat] := List.getElem?_eq_getElem (by omega)
  refine ⟨z.toNat, es[z.toNat], ?_, e⟩
  have := L2.atI_nat (xs := es) (j := z.toNat) e
  rwa [Int.toNat_of_nonneg h0] at this
theorem pick_ok : PickOk sp__law_pick := by
  intro a w c n G x es Q d hn hx nx ns h0 h1 k
  have fin : ∀ z G', 0 ≤ z → z < (es.length : Int) → Dr a w c (n + 1) G' → Fr a w G G' → rdIx x (.int z) G' Q := by
    intro z G' z0 z1 d' f'
    obtain ⟨i, e, e1, e2⟩ := atI_of z0 z1
    cases x with
    | tup ds => obtain rfl : es = ds := hx; exact ⟨e, e1, k i e G' e2 d' f'⟩
    | ref p => exact ⟨es, e, f' p _ (nx p rfl).1 (nx p rfl).2 hx, e1, k i e G' e2 d' f'⟩
    | scr m => exact absurd rfl (ns m)
    | _ => exact hx.elim
  refine ⟨rfl, ?_⟩
  cases x with
  | tup ds =>
    obtain rfl : es = ds := hx
    exact take_ok d hn (by omega) (by omega) fun z G' z0 z1 d' f' => fin z G' z0 z1 d' f'
  | ref p =>
    refine ⟨es, hx, ?_⟩
    exact take_ok d hn (by omega) (by omega) fun z G' z0 z1 d' f' => fin z G' z0 z1 d' f'
  | scr m => exact absurd rfl (ns m)
  | _ => exact hx.elim
end K59
end
section
set_option Elab.async false
set_option linter.all false
set_option maxRecDepth 100000
set_option maxHeartbeats 4000000
namespace K59
open PySem PySem.Spec PyProof.Rows L2 TL
/-! ### small defs -/
theorem Br.t' {x y : Prop} (h : x) : Br true x y := ⟨fun _ => h, fun z => nomatch z⟩
theorem Br.f' {x y : Prop} (h : y) : Br false x y := ⟨(fun z => nomatch z), fun _ => h⟩
def nodeD (r c t : Int) : D := if c = 0 ∨ c = t ∨ r = 0 then .tup [.int 0, .int c] else if (r - c) % 2 = 0 then .tup [.int r, .int c] else .tup [.int (r - 1), .int c]
def NodeOk (s : Spd) : Prop := ∀ {r c t : Int} {G : Gp} {Q : KD}, Q (nodeD r c t) G → s [.int r, .int c, .int t] G Q
theorem neb {i j : Int} (h : (i == j) = false) : ¬ i = j := by simpa using h
theorem beq0 {i j : Int} : ((i == j) = true) ↔ i = j := by simp
theorem node_pole {r c t : Int} (h : c = 0 ∨ c = t ∨ r = 0) : nodeD r c t = .tup [.int 0, .int c] := if_pos h
theorem node_in {r c t : Int} (h : ¬ (c = 0 ∨ c = t ∨ r = 0)) (e : (r - c) % 2 = 0) : nodeD r c t = .tup [.int r, .int c] := by unfold nodeD; rw [if_neg h, if_pos e]
theorem node_up {r c t : Int} (h : ¬ (c = 0 ∨ c = t ∨ r = 0)) (e : ¬ (r - c) % 2 = 0) : nodeD r c t = .tup [.int (r - 1), .int c] := by unfold nodeD; rw [if_neg h, if_neg e]
theorem among2 {c t : Int} : D.among (.int c) [.int 0, .int t] = (decide (c = 0) || decide (c = t)) := by
  simp only [D.among, D.eqv, List.any_cons, List.any_nil, Bool.or_false]
  congr 1 <;> (rw [Bool.eq_iff_iff]; simp; exact eq_comm)
theorem law_node_ok : NodeOk sp__law_node := by
  intro r c t G Q q
  refine ⟨rfl, le2, rfl, fun e => Br.t' ⟨le2, ?_⟩, fun e => ⟨rfl, fun e2 => ⟨le2, ?_⟩, fun e2 => ?_⟩⟩
  · have e : (decide (c = 0) || decide (c = t)) = true := by rw [← among2]; exact e
    rw [node_pole (by simp at e; omega)] at q; exact q
  · have e2 : r = 0 := beq0.mp e2
    rw [node_pole (by omega)] at q; exact q
  · have e : (decide (c = 0) || decide (c = t)) = false := by rw [← among2]; exact e
    have e2 : ¬ r = 0 := neb e2
    have h : ¬ (c = 0 ∨ c = t ∨ r = 0) := by simp at e; omega
    refine ⟨(show (0 : Int) < 2 by decide), rfl, fun e3 => ⟨le2, ?_⟩, fun e3 => ⟨le2, ?_⟩⟩
    · rw [node_in h (beq0.mp e3)] at q; exact q
    · rw [node_up h (neb e3)] at q; exact q
theorem node_ok : NodeOk sp_node := by
  intro r c t G Q q
  refine ⟨rfl, le2, rfl, fun e => Br.t' ⟨le2, ?_⟩, fun e => ⟨rfl, fun e2 => ⟨le2, ?_⟩, fun e2 => ?_⟩⟩
  · have e : (decide (c = 0) || decide (c = t)) = true := by rw [← among2]; exact e
    rw [node_pole (by simp at e; omega)] at q; exact q
  · have e2 : r = 0 := beq0.mp e2
    rw [node_pole (by omega)] at q; exact q
  · have e : (decide (c = 0) || decide (c = t)) = false := by rw [← among2]; exact e
    have e2 : ¬ r = 0 := neb e2
    have h : ¬ (c = 0 ∨ c = t ∨ r = 0) := by simp at e; omega
    refine ⟨⟨by decide, by decide⟩, .inl (.inr ⟨by decide, by decide⟩), rfl, fun e3 => ⟨le2, ?_⟩, fun e3 => ⟨le2, ?_⟩⟩
    · have e3 : (r - c) / 2 * 2 = r - c := beq0.mp e3
      rw [node_in h (by omega)] at q; exact q
    · have e3 : ¬ (r - c) / 2 * 2 = r - c := neb e3
      rw [node_up h (by omega)] at q; exact q
/-! whole numbers -/
def isNum (d : D) (lo hi : Int) : Bool := match d with
  | .int i => decide (lo ≤ i) && decide (i ≤ hi)
  | _ => false
def NumOk (s : Spd) : Prop := ∀ {d : D} {lo hi : Int} {G : Gp} {Q : KD}, (∀ a, d ≠ .ref a) → Q (.bl (isNum d lo hi)) G → s [d, .int lo, .int hi] G Q
theorem isInt_ok {Q : KD} {G : Gp} {d : D} {lo hi : Int} (n : ∀ a, d ≠ .ref a) (q : Q (.bl (isNum d lo hi)) G) : (qRet (qAndV (qIsi "int" (qVar 0)) (qAndV (qNotV (qIsi "bool" (qVar 0))) (qChain rLe rLe (qVar 1) (qVar 0) (qVar 2))))) (endsD Q) (startD 3 [d, .int lo, .int hi]) G := by
  cases d with
  | int i =>
    refine Br.t' (Br.t' ⟨fun e => ?_, fun e => ?_⟩)
    · have : isNum (.int i) lo hi = decide (i ≤ hi) := by show (decide (lo ≤ i) && decide (i ≤ hi)) = _; rw [show decide (lo ≤ i) = true from e]; rfl
      rw [this] at q; exact q
    · have : isNum (.int i) lo hi = false := by show (decide (lo ≤ i) && decide (i ≤ hi)) = _; rw [show decide (lo ≤ i) = false from e]; rfl
      rw [this] at q; exact q
  | bl b => exact Br.t' (Br.f' q)
  | ref a => exact absurd rfl (n a)
  | _ => exact Br.f' q
theorem is_number_ok : NumOk sp_is_number := fun n q => ⟨rfl, isInt_ok n q⟩
theorem law_is_int_ok : NumOk sp__law_is_int := fun n q => ⟨rfl, isInt_ok n q⟩
/-! spots -/
def spots (t r : Nat) : List Nat := (List.range ((t - r % 2) / 2)).map fun j => r % 2 + 2 * j
def spotsD (t r : Nat) : List D := (spots t r).map fun (s : Nat) => D.int (s : Int)
theorem spots_filter (r : Nat) : ∀ m : Nat, (List.range m).filter (fun s => (s + r) % 2 = 0) = spots (m + 1) r
  | 0 => by
    have : (0 + 1 - r % 2) / 2 = 0 := by omega
    unfold spots; rw [this]; rfl
  | m + 1 => by
    rw [List.range_succ, List.filter_append, spots_filter r m]
    unfold spots
    by_cases h : (m + r) % 2 = 0
    · have e : (m + 1 + 1 - r % 2) / 2 = (m + 1 - r % 2) / 2 + 1 := by omega
      have v : r % 2 + 2 * ((m + 1 - r % 2) / 2) = m := by omega
      rw [e, List.range_succ, List.map_append]
      simp [h, v]
    · have e : (m + 1 + 1 - r % 2) / 2 = (m + 1 - r % 2) / 2 := by omega
      rw [e]
      simp [h]
def SpotsOk (s : Spd) : Prop := ∀ {t r : Nat} {G : Gp} {Q : KD}, 2 ≤ t → t ≤ 16 → r < 1000000 → (∀ p G', G p = none → GSame G G' → G' p = some (.lst (spotsD t r)) → Q (.ref p) G') → s [.int t, .int r] G Q
def spotF (r : Nat) : D → Option D
  | .int s => if (s + r) % 2 = 0 then some (.int s) else none
  | _ => none
theorem law_spots_ok : SpotsOk sp__law_spots := by
  intro t r G Q ht ht2 hr k
  refine ⟨rfl, (show Lim ((t : Int) - 1) from ⟨by omega, by omega⟩), ?_⟩
  refine lc_pure (spotF r) ?_ ?_ ?_ ?_
  · trivial
  · rw [rangeD_len]; show ((t : Int) - 1).toNat < 1000000; omega
  · intro i d e G1 s1 K kk
    obtain ⟨rfl, hi⟩ := rangeD_get e
    have ei : (0 : Int) + (i : Nat) * 1 = (i : Int) := by omega
    rw [ei] at kk ⊢
    refine ⟨(show (0 : Int) < 2 by decide), rfl, fun e => ?_, fun e => ?_⟩
    · have := kk G1 (.refl _)
      rw [show spotF r (.int (i : Int)) = some (.int i) from if_pos (beq0.mp e)] at this
      exact this
    · have := kk G1 (.refl _)
      rw [show spotF r (.int (i : Int)) = none from if_neg (neb e)] at this
      exact this
  · intro p G1 hp s1 gp
    refine k p G1 hp s1 ?_
    rw [gp]
    congr 2
    have e1 : (((t : Int) - 1).toNat) = t - 1 := by omega
    show (rangeD 0 ((t : Int) - 1).toNat 1).filterMap (spotF r) = spotsD t r
    rw [e1]
    unfold spotsD
    rw [show spots t r = spots (t - 1 + 1) r by congr 1; omega, ← spots_filter r (t - 1)]
    unfold rangeD
    generalize List.range (t - 1) = l
    induction l with
    | nil => rfl
    | cons x l ih =>
      rw [List.map_cons, List.filterMap_cons, List.filter_cons, ih]
      have ex : (0 : Int) + (x : Nat) * 1 = (x : Int) := by omega
      rw [ex]
      by_cases h : (x + r) % 2 = 0
      · rw [show spotF r (.int (x : Int)) = some (.int x) from if_pos (by omega)]
        simp [h]
      · rw [show spotF r (.int (x : Int)) = none from if_neg (by omega)]
        simp [h]
theorem rgc2 : ∀ t, t < 17 → ∀ b, b < 2 → 2 ≤ t → RgC (b : Nat) ((t : Nat) - 1 : Int) 2 ((t - b) / 2) := by
  unfold RgC
  decide
theorem spots_of_ok : SpotsOk sp_spots_of := by
  intro t r G Q ht ht2 hr k
  have e0 : (r : Int) - (r : Int) / 2 * 2 = ((r % 2 : Nat) : Int) := by omega
  refine ⟨rfl, ⟨by decide, by decide⟩, .inl (.inr ⟨by decide, by decide⟩), (t - r % 2) / 2, ?_, by omega, fun p hp => ?_⟩
  · have := rgc2 t (by omega) (r % 2) (by omega) ht
    rw [← e0] at this; exact this
  · refine k p _ hp (.new hp) ?_
    rw [gup_same]
    show some (O.lst (rangeD ((r : Int) - (r : Int) / 2 * 2) ((t - r % 2) / 2) 2)) = _
    rw [e0]
    unfold rangeD spotsD spots
    rw [List.map_map]
    congr 3
    funext j
    show D.int _ = D.int _
    congr 1
    simp only [Function.comp]
    omega
end K59
end
section
set_option Elab.async false
set_option linter.all false
set_option maxRecDepth 100000
set_option maxHeartbeats 4000000
namespace K59
open PySem PySem.Spec PyProof.Rows L2 TL
/-! ### a comprehension that draws -/
theorem lc_draw {gd : TGd} {tt : TTd} {te : TEd} {vs : List Nat} {ρ : Sd} {items : List D} {gl : List (Addr × O)} {G1 : Gp} {Q : KD} {a w c : Addr} {n : Nat} (P : Nat → D → Prop) (cost : Nat) (hl : items.length < 1000000)
    (gf : ∀ G', Fr a w G1 G' → GOf gl G') (d : Dr a w c n G1)
    (ht : ∀ (i : Nat) (x : D), items[i]? = some x → ∀ m G', m ≤ n + cost * items.length → Dr a w c m G' → Fr a w G1 G' → ∀ K : Option D → Gp → Prop, (∀ y G'', P i y → Dr a w c (m + cost) G'' → Fr a w G' G'' → K (some y) G'') → turnP gd tt te (wipeD ρ vs) x G' K)
    (hq : ∀ p acc G', G1 p = none → acc.length = items.length → (∀ (j : Nat) (y : D), acc[j]? = some y → P j y) → G' p = some (.lst acc) → Dr a w c (n + cost * items.length) G' → Fr a w G1 G' → Q (.ref p) G') : LcIn gd tt te vs ρ items gl G1 Q := by
  intro p hp
  have off := d.off hp
  refine ⟨fun i acc G => i ≤ items.length ∧ acc.length = i ∧ (∀ (j : Nat) (y : D), acc[j]? = some y → P j y) ∧ G p = some (.lst acc) ∧ Dr a w c (n + cost * i) G ∧ Fr a w G1 G,
    ⟨Nat.zero_le _, rfl, (fun j y e => by simp at e), gup_same, d.new hp, .same (.new hp)⟩, fun i acc G h _ => gf G h.2.2.2.2.2, ?_, ?_⟩
  · rintro i x acc G e ⟨hi, rfl, hP, hg, hd, hf⟩
    have hlt := (List.getElem?_eq_some_iff.mp e).1
    have hz : acc.length < sizeLine := by rw [sizeLine_eq]; omega
    have hc : cost * acc.length ≤ cost * items.length := Nat.mul_le_mul_left _ (by omega)
    exact ht acc.length x e (n + cost * acc.length) G (by omega) hd hf (fun o G4 => match o with
      | some y => G4 p = some (.lst acc) ∧ acc.length < sizeLine ∧ (acc.length + 1 ≤ items.length ∧ (acc ++ [y]).length = acc.length + 1 ∧ (∀ (j : Nat) (z : D), (acc ++ [y])[j]? = some z → P j z) ∧ gup G4 p (.lst (acc ++ [y])) p = some (.lst (acc ++ [y])) ∧ Dr a w c (n + cost * (acc.length + 1)) (gup G4 p (.lst (acc ++ [y]))) ∧ Fr a w G1 (gup G4 p (.lst (acc ++ [y]))))
      | none => acc.length + 1 ≤ items.length ∧ acc.length = acc.length + 1 ∧ (∀ (j : Nat) (y : D), acc[j]? = some y → P j y) ∧ G4 p = some (.lst acc) ∧ Dr a w c (n + cost * (acc.length + 1)) G4 ∧ Fr a w G1 G4) fun y G4 hy d4 f4 => by
      refine ⟨f4 p _ off.1 off.2.1 hg, hz, by omega, by simp, fun j z ez => ?_, gup_same, ?_, fun x o n1 n2 ex => ?_⟩
      · by_cases hj : j < acc.length
        · rw [List.getElem?_append_left hj] at ez; exact hP j z ez
        · rw [List.getElem?_append_right (by omega)] at ez
          have : j = acc.length := by
            by_cases q : j = acc.length
            · exact q
            · rw [List.getElem?_eq_none (by simp; omega)] at ez; cases ez
          subst this
          simp at ez; subst ez; exact hy
      · have : n + cost * (acc.length + 1) = n + cost * acc.length + cost := by rw [Nat.mul_add]; omega
        rw [this]; exact d4.put off
      · rw [gup_ne (gne_none ex hp)]
        exact f4 x o n1 n2 (hf x o n1 n2 ex)
  · rintro acc G ⟨_, h1, h2, h3, h4, h5⟩
    exact hq p acc G hp h1 h2 h3 h4 h5
/-! ### the rows -/
def wishOk (e : D) : Prop := e ∈ [D.non, .int 0, .int 1, .tup [.int 0, .int 0], .tup [.int 0, .int 1], .tup [.int 1, .int 1]]
def rowOk (t r : Nat) (row : List D) : Prop := row.length = (spots t r).length ∧ ∀ e ∈ row, wishOk e
def RowsOk (t : Nat) (rows : List D) : Prop := ∀ (r : Nat) (y : D), rows[r]? = some y → ∃ row, y = .tup row ∧ rowOk t r row
def WishedOk (s : Spd) : Prop := ∀ {a w c : Addr} {n t m k : Nat} {G : Gp} {Q : KD}, Dr a w c n G → n + 2000 ≤ 1000000000 → 2 ≤ t → t ≤ 16 → m ≤ 60 → 0 < k → k < 100 →
  (∀ rows G', rows.length = m → RowsOk t rows → Dr a w c (n + 2000) G' → Fr a w G G' → Q (.tup rows) G') → s [.ref a, .int t, .int m, .int k] G Q
theorem spots_len {t r : Nat} : (spots t r).length = (t - r % 2) / 2 := by unfold spots; simp
theorem wish_in {e : D} (h : e ∈ [D.int 0, .int 1] ∨ e ∈ [D.int 0, .int 1, .int 0, .int 1, .tup [.int 0, .int 1]] ∨ e ∈ [D.int 0, .int 1, .tup [.int 0, .int 0], .tup [.int 0, .int 1], .tup [.int 1, .int 1]]) : wishOk e := by
  unfold wishOk
  simp only [List.mem_cons, List.not_mem_nil, or_false] at h ⊢
  rcases h with h | h | h
  · rcases h with h | h <;> simp [h]
  · rcases h with h | h | h | h | h <;> simp [h]
  · rcases h with h | h | h | h | h <;> simp [h]
theorem wished_ok : WishedOk sp__law_wished_rows := by
  intro a w c n t m k G Q d hn ht ht2 hm hk hk2 kk
  refine ⟨rfl, (by decide), fun p1 h1 => ⟨le2, (by show 5 ≤ 1000; decide), fun p2 h2 => ⟨le2, le2, le2, (by show 5 ≤ 1000; decide), fun p3 h3 => ⟨(by show 3 ≤ 1000; decide), fun p4 h4 => ?_⟩⟩⟩⟩
  have d4 := (((d.new (o := .lst [.int 0, .int 1]) h1).new (o := .lst [.int 0, .int 1, .int 0, .int 1, .tup [.int 0, .int 1]]) h2).new (o := .lst [.int 0, .int 1, .tup [.int 0, .int 0], .tup [.int 0, .int 1], .tup [.int 1, .int 1]]) h3).new (o := .lst [.ref p1, .ref p2, .ref p3]) h4
  have f4 : Fr a w G _ := (((Fr.same (.new (o := .lst [.int 0, .int 1]) h1)).trans (.same (.new (o := .lst [.int 0, .int 1, .int 0, .int 1, .tup [.int 0, .int 1]]) h2))).trans (.same (.new (o := .lst [.int 0, .int 1, .tup [.int 0, .int 0], .tup [.int 0, .int 1], .tup [.int 1, .int 1]]) h3))).trans (.same (.new (o := .lst [.ref p1, .ref p2, .ref p3]) h4))
  have o1 := d.off h1
  have o2 := (d.new (o := .lst [.int 0, .int 1]) h1).off h2
  have o3 := ((d.new (o := .lst [.int 0, .int 1]) h1).new (o := .lst [.int 0, .int 1, .int 0, .int 1, .tup [.int 0, .int 1]]) h2).off h3
  have o4 := (((d.new (o := .lst [.int 0, .int 1]) h1).new (o := .lst [.int 0, .int 1, .int 0, .int 1, .tup [.int 0, .int 1]]) h2).new (o := .lst [.int 0, .int 1, .tup [.int 0, .int 0], .tup [.int 0, .int 1], .tup [.int 1, .int 1]]) h3).off h4
  have n12 : p1 ≠ p2 := fun e => by subst e; rw [gup_same] at h2; cases h2
  have n13 : p1 ≠ p3 := fun e => by subst e; rw [gup_ne n12, gup_same] at h3; cases h3
  have n14 : p1 ≠ p4 := fun e => by subst e; rw [gup_ne n13, gup_ne n12, gup_same] at h4; cases h4
  have n23 : p2 ≠ p3 := fun e => by subst e; rw [gup_same] at h3; cases h3
  have n24 : p2 ≠ p4 := fun e => by subst e; rw [gup_ne n23, gup_same] at h4; cases h4
  have n34 : p3 ≠ p4 := fun e => by subst e; rw [gup_same] at h4; cases h4
  generalize hG : gup (gup (gup (gup G p1 (.lst [.int 0, .int 1])) p2 (.lst [.int 0, .int 1, .int 0, .int 1, .tup [.int 0, .int 1]])) p3 (.lst [.int 0, .int 1, .tup [.int 0, .int 0], .tup [.int 0, .int 1], .tup [.int 1, .int 1]])) p4 (.lst [.ref p1, .ref p2, .ref p3]) = G4 at d4 f4
  have g1 : G4 p1 = some (.lst [.int 0, .int 1]) := by rw [← hG, gup_ne n14, gup_ne n13, gup_ne n12, gup_same]
  have g2 : G4 p2 = some (.lst [.int 0, .int 1, .int 0, .int 1, .tup [.int 0, .int 1]]) := by rw [← hG, gup_ne n24, gup_ne n23, gup_same]
  have g3 : G4 p3 = some (.lst [.int 0, .int 1, .tup [.int 0, .int 0], .tup [.int 0, .int 1], .tup [.int 1, .int 1]]) := by rw [← hG, gup_ne n34, gup_same]
  have g4 : G4 p4 = some (.lst [.ref p1, .ref p2, .ref p3]) := by rw [← hG, gup_same]
  refine pick_ok d4 (by omega) (x := .ref p4) (es := [.ref p1, .ref p2, .ref p3]) g4 (fun p e => by cases e; exact ⟨o4.1, o4.2.1⟩) (fun ns e => nomatch e) (show 0 < 3 by decide) (show 3 < 1000000 by decide) fun i e G5 he d5 f5 => ?_
  -- the chosen list
  obtain ⟨pq, ws, rfl, gq, hq, hz, op⟩ : ∃ (pq : Addr) (ws : List D), e = .ref pq ∧ G5 pq = some (.lst ws) ∧ (∀ x ∈ ws, wishOk x) ∧ (0 < ws.length ∧ ws.length < 1000000) ∧ (pq ≠ a ∧ pq ≠ w) := by
    match i, he with
    | 0, he => cases he; exact ⟨p1, _, rfl, f5 _ _ o1.1 o1.2.1 g1, fun x hx => wish_in (.inl hx), ⟨by decide, by decide⟩, o1.1, o1.2.1⟩
    | 1, he => cases he; exact ⟨p2, _, rfl, f5 _ _ o2.1 o2.2.1 g2, fun x hx => wish_in (.inr (.inl hx)), ⟨by decide, by decide⟩, o2.1, o2.2.1⟩
    | 2, he => cases he; exact ⟨p3, _, rfl, f5 _ _ o3.1 o3.2.1 g3, fun x hx => wish_in (.inr (.inr hx)), ⟨by decide, by decide⟩, o3.1, o3.2.1⟩
    | j + 3, he => simp at he
  have f05 := f4.trans f5
  refine ⟨⟨by omega, by omega⟩, ?_⟩
  have el : (rangeD 0 ((m : Int)).toNat 1).length = m := by rw [rangeD_len]; simp
  refine lc_draw (a := a) (w := w) (c := c) (n := n + 1) (fun r y => ∃ row, y = .tup row ∧ rowOk t r row) 32 (by rw [el]; omega) (fun G' _ => trivial) d5 ?_ ?_
  · intro r x ex m1 G6 hm1 d6 f6 K hK
    rw [el] at hm1
    obtain ⟨rfl, hr⟩ := rangeD_get ex
    have er : (0 : Int) + (r : Nat) * 1 = (r : Int) := by omega
    rw [er]
    refine ⟨fun _ => ?_, fun z => nomatch z⟩
    refine law_spots_ok ht ht2 (by simp at hr; omega) fun ps G7 hps s7 g7 => ⟨spotsD t r, g7, ?_⟩
    have d7 := d6.same s7
    have ops := d6.off hps
    have lsp : (spotsD t r).length ≤ 8 := by unfold spotsD; rw [List.length_map, spots_len]; omega
    refine lc_draw (a := a) (w := w) (c := c) (n := m1) (fun _ y => wishOk y) 2 (by omega) (fun G' f => ⟨f _ _ ops.1 ops.2.1 g7, trivial⟩) d7 ?_ ?_
    · intro s x ex m2 G8 hm2 d8 f8 K2 hK2
      have hm2' : m2 ≤ m1 + 16 := by omega
      unfold spotsD at ex
      rw [List.getElem?_map] at ex
      obtain ⟨sn, _, rfl⟩ := Option.map_eq_some_iff.mp ex
      refine ⟨fun _ => ?_, fun z => nomatch z⟩
      refine take_ok d8 (by omega) (by omega) (by omega) fun z G9 z0 z1 d9 f9 => ⟨rfl, fun _ => ?_, fun _ => ?_⟩
      · exact hK2 .non G9 (by unfold wishOk; simp) (d9.mono (by omega)) f9
      · refine pick_ok d9 (by omega) (x := .ref pq) (es := ws) ?_ (fun p e => by cases e; exact op) (fun ns e => nomatch e) hz.1 hz.2 fun i e G10 he d10 f10 => ?_
        · exact f9 _ _ op.1 op.2 (f8 _ _ op.1 op.2 (s7 _ _ (f6 _ _ op.1 op.2 gq)))
        · exact hK2 e G10 (hq e (List.mem_of_getElem? he)) d10 (f9.trans f10)
    · intro p acc G8 hp hl hP hg d8 f8
      refine ⟨acc, hg, ?_⟩
      refine hK (.tup acc) G8 ⟨acc, rfl, by rw [hl]; unfold spotsD; simp, fun e he => ?_⟩ (d8.mono (by omega)) ((Fr.same s7).trans f8)
      obtain ⟨j, hj⟩ := List.getElem?_of_mem he
      exact hP j e hj
  · intro p acc G6 hp hl hP hg d6 f6
    rw [el] at hl d6
    refine ⟨acc, hg, ?_⟩
    exact kk acc G6 hl (fun r y e => hP r y e) (d6.mono (by omega)) (f05.trans f6)
end K59
end
section
set_option Elab.async false
set_option linter.all false
set_option maxRecDepth 100000
set_option maxHeartbeats 4000000
namespace K59
open PySem PySem.Spec PyProof.Rows L2 TL
def ShufOk (s : Spd) : Prop := ∀ {a w c p : Addr} {n : Nat} {ns : List Int} {G : Gp} {Q : KD}, Dr a w c n G → n + 1000 ≤ 1000000000 → G p = some (.lst (ns.map .int)) → ns.length ≤ 1000 →
  (∀ (q : Addr) (out : List Int) (G' : Gp), G q = none → out.Perm ns → G' q = some (.lst (out.map .int)) → Dr a w c (n + ns.length) G' → Fr a w G G' → Q (.ref q) G') → s [.ref a, .ref p] G Q
theorem eqvs_nil : ∀ {ns : List Int}, D.eqvs (ns.map .int) [] = ns.isEmpty
  | [] => rfl
  | _ :: _ => rfl
theorem map_erase (ns : List Int) (k : Nat) : (ns.map D.int).eraseIdx k = (ns.eraseIdx k).map .int := by
  induction ns generalizing k with
  | nil => rfl
  | cons z r ih =>
    cases k with
    | zero => rfl
    | succ k => simp [ih]
theorem shuf_ok : ShufOk sp__law_shuffled := by
  intro a w c p n ns G Q d hn hp hl k
  refine ⟨rfl, _, hp, fun l hl0 => ⟨(by decide), fun f hf0 => ⟨le2, ?_⟩⟩⟩
  have d1 := d.new (o := .lst (ns.map .int)) hl0
  have ol := d.off hl0
  have of := d1.off hf0
  have nlf : l ≠ f := fun e => by subst e; rw [gup_same] at hf0; cases hf0
  have hfG : G f = none := by rw [gup_ne nlf.symm] at hf0; exact hf0
  have d2 := d1.new (o := .lst []) hf0
  refine ⟨fun m ρ G' => ∃ ls fs : List Int, ρ = [some (.ref a), some (.ref p), some (.ref l), some (.ref f)] ∧ G' l = some (.lst (ls.map .int)) ∧ G' f = some (.lst (fs.map .int)) ∧ (fs ++ ls).Perm ns ∧ m = ls.length ∧ Dr a w c (n + fs.length) G' ∧ Fr a w G G',
    ⟨ns.length, ns, [], rfl, by rw [gup_ne nlf, gup_same], gup_same, .refl _, rfl, d2, ((Fr.same (.new hl0)).trans (.same (.new hf0)))⟩, ?_⟩
  rintro m ρ G1 ⟨ls, fs, rfl, g1, g2, pm, rfl, d3, f3⟩
  have plen := pm.length_eq
  rw [List.length_append] at plen
  refine ⟨(by decide), fun e he => ⟨_, _, by rw [gup_ne (gne_none g1 he)]; exact g1, gup_same, okL_ints ls, rfl, fun z => ?_, fun z => ?_⟩⟩
  · -- one more is taken
    have d4 := d3.new (o := .lst []) he
    have q1 : gup G1 e (.lst []) l = some (.lst (ls.map .int)) := by rw [gup_ne (gne_none g1 he)]; exact g1
    have q2 : gup G1 e (.lst []) f = some (.lst (fs.map .int)) := by rw [gup_ne (gne_none g2 he)]; exact g2
    have hne : 0 < ls.length := by
      cases ls with
      | nil => exact absurd z (by decide)
      | cons => simp
    refine ⟨⟨_, q2⟩, ⟨_, q1⟩, _, q1, ?_⟩
    rw [List.length_map]
    refine take_ok d4 (by omega) (by omega) (by omega) fun i G2 i0 i1 d5 f5 => ?_
    have r1 := f5 _ _ ol.1 ol.2.1 q1
    have r2 := f5 _ _ of.1 of.2.1 q2
    have hk : i.toNat < ls.length := by omega
    refine ⟨_, .int ls[i.toNat], r1, i0, by omega, by rw [List.getElem?_map, List.getElem?_eq_getElem hk]; rfl, _, by rw [gup_ne nlf.symm]; exact r2, by rw [List.length_map, sizeLine_eq]; omega, ls.length - 1, by omega, ls.eraseIdx i.toNat, fs ++ [ls[i.toNat]], rfl, ?_, ?_, ?_, ?_, ?_, ?_⟩
    · rw [gup_ne nlf, gup_same, map_erase]
    · rw [gup_same, List.map_append]; rfl
    · refine List.Perm.trans ?_ pm
      rw [List.append_assoc]
      refine List.Perm.append_left _ ?_
      exact L2.erase_perm ls i.toNat _ (List.getElem?_eq_getElem hk)
    · rw [List.length_eraseIdx_of_lt hk]
    · rw [List.length_append]
      exact (d5.put (o := .lst ((ls.map D.int).eraseIdx i.toNat)) ol).put of
    · intro x o n1 n2 ex
      rw [gup_ne (gne_none ex hfG), gup_ne (gne_none ex hl0)]
      refine f5 x o n1 n2 ?_
      have := f3 x o n1 n2 ex
      rw [gup_ne (gne_none this he)]; exact this
  · -- the end
    have : ls = [] := by
      cases ls with
      | nil => rfl
      | cons => exact nomatch (show true = false from z)
    subst this
    rw [List.append_nil] at pm
    refine k f fs _ hfG pm ?_ ?_ ?_
    · rw [gup_ne (gne_none g2 he)]; exact g2
    · rw [← pm.length_eq]; exact d3.new he
    · exact f3.trans (.same (.new he))
def SaysOk (s : Spd) : Prop := ∀ {x y : Bool} {G : Gp} {Q : KD}, Q (.bl (x == y)) G → s [.bl x, .bl y] G Q
theorem says_ok : SaysOk sp__law_says := by
  intro x y G Q q
  exact ⟨rfl, Br.t' ⟨rfl, q⟩⟩
/-! wishes at a knot -/
def knotE (x y e : D) : List D := match e with
  | .tup [.int i, .int j] => [.tup [x, y, .int (0 - (i + j))], .tup [y, x, .int (i + j)]]
  | .int i => if i = 1 then [.tup [x, y, .int (-1)]] else if i = 0 then [.tup [y, x, .int 1]] else []
  | _ => []
def KnotOk (s : Spd) : Prop := ∀ {x y e : D} {G : Gp} {Q : KD}, wishOk e → (∀ p G', G p = none → GSame G G' → G' p = some (.lst (knotE x y e)) → Q (.ref p) G') → s [x, y, e] G Q
theorem knot_ok : KnotOk sp__law_knot_wishes := by
  intro x y e G Q he k
  unfold wishOk at he
  simp only [List.mem_cons, List.not_mem_nil, or_false] at he
  have tupc : ∀ i j : Int, e = .tup [.int i, .int j] → sp__law_knot_wishes [x, y, e] G Q := by
    rintro i j rfl
    refine ⟨rfl, Br.t' ⟨[i, j], rfl, le3, [i, j], rfl, le3, le2, fun p hp => ?_⟩⟩
    have hs : [i, j].sum = i + j := by simp
    have := k p _ hp (.new hp) gup_same
    show Q (.ref p) (gup G p (.lst [.tup [x, y, .int (0 - [i, j].sum)], .tup [y, x, .int [i, j].sum]]))
    rw [hs]; exact this
  rcases he with rfl | rfl | rfl | rfl | rfl | rfl
  · exact ⟨rfl, Br.f' ⟨rfl, Br.f' ⟨rfl, Br.f' ⟨(by decide), fun p hp => k p _ hp (.new hp) gup_same⟩⟩⟩⟩
  · exact ⟨rfl, Br.f' ⟨rfl, Br.f' ⟨rfl, Br.t' ⟨le3, (by show 1 ≤ 1000; decide), fun p hp => k p _ hp (.new hp) gup_same⟩⟩⟩⟩
  · exact ⟨rfl, Br.f' ⟨rfl, Br.t' ⟨le3, (by show 1 ≤ 1000; decide), fun p hp => k p _ hp (.new hp) gup_same⟩⟩⟩
  · exact tupc 0 0 rfl
  · exact tupc 0 1 rfl
  · exact tupc 1 1 rfl
/-! wishes of a row -/
def rowP (t r p : Nat) : List D := [.tup [nodeD r ((p : Int) + 1) t, nodeD r p t, .int 1], .tup [nodeD r p t, nodeD r ((p : Int) + 1) t, .int 0]]
def rowE (t r : Nat) : List D := (List.range t).flatMap (rowP t r)
def RowOk (s : Spd) : Prop := ∀ {t r : Nat} {x : D} {G : Gp} {Q : KD}, t ≤ 16 → (∀ p G', G p = none → GSame G G' → G' p = some (.lst (rowE t r)) → Q (.ref p) G') → s [.int t, x, .int r] G Q
theorem fm_take {β : Type} (f : Nat → List β) (i : Nat) : (List.range (i + 1)).flatMap f = (List.range i).flatMap f ++ f i := by
  rw [List.range_succ, List.flatMap_append]; simp
theorem rowP_len (t r : Nat) : ∀ i, ((List.range i).flatMap (rowP t r)).length = 2 * i
  | 0 => rfl
  | i + 1 => by rw [fm_take, List.length_append, rowP_len t r i]; show 2 * i + 2 = _; omega
theorem row_ok : RowOk sp__law_row_wishes := by
  intro t r x G Q ht k
  refine ⟨rfl, (by decide), fun p0 hp0 => ⟨⟨by omega, by omega⟩, ?_⟩⟩
  have el : (rangeD 0 ((t : Int)).toNat 1).length = t := by rw [rangeD_len]; simp
  refine ⟨fun i ρ G' => ∃ q x1 y1 z1, G q = none ∧ ρ = [some (.int t), some x, some (.int r), some (.ref q), x1, y1, z1] ∧ GSame G G' ∧ G' q = some (.lst ((List.range i).flatMap (rowP t r))),
    ⟨p0, none, none, none, hp0, rfl, .new hp0, gup_same⟩, fun i ρ G' _ _ => trivial, ?_, ?_⟩
  · rintro i d ρ G1 ed ⟨q, x1, y1, z1, hq, rfl, s1, g1⟩
    obtain ⟨rfl, hi⟩ := rangeD_get ed
    have hi : i < t := by simpa using hi
    have ei : (0 : Int) + (i : Nat) * 1 = (i : Int) := by omega
    rw [ei]
    refine law_node_ok (law_node_ok ⟨le2, le3, le3, le2, fun p2 hp2 => ?_⟩)
    refine ⟨_, _, by rw [gup_ne (gne_none g1 hp2)]; exact g1, gup_same, ?_, fun p3 hp3 => ?_⟩
    · have := rowP_len t r i
      show _ + 2 ≤ sizeLine
      rw [sizeLine_eq]; omega
    · have n32 : G p3 = none := s1.free ((GSame.new hp2).free hp3)
      refine ⟨p3, _, _, _, n32, rfl, (s1.trans (.new hp2)).trans (.new hp3), ?_⟩
      rw [gup_same, fm_take]; rfl
  · rintro ρ G1 ⟨q, x1, y1, z1, hq, rfl, s1, g1⟩
    rw [el] at g1
    exact k q G1 hq s1 g1
end K59
end
section
set_option Elab.async false
set_option linter.all false
set_option maxRecDepth 100000
set_option maxHeartbeats 4000000
namespace K59
open PySem PySem.Spec PyProof.Rows L2 TL
/-! ### the law's own numbers -/
def pt (i j : Int) : D := .tup [.int i, .int j]
theorem node_pt (r c t : Int) : ∃ i, nodeD r c t = pt i c := by
  unfold nodeD
  by_cases h : c = 0 ∨ c = t ∨ r = 0
  · rw [if_pos h]; exact ⟨0, rfl⟩
  · rw [if_neg h]
    by_cases e : (r - c) % 2 = 0
    · rw [if_pos e]; exact ⟨r, rfl⟩
    · rw [if_neg e]; exact ⟨r - 1, rfl⟩
def EdgeD (e : D) : Prop := ∃ i j k l n, e = .tup [pt i j, pt k l, .int n]
def hitI (x y e : D) : Option Int := match e with
  | .tup [a, b, .int n] => if a = x ∧ b = y then some n else none
  | _ => none
def hits (x y : D) (l : List D) : List Int := l.filterMap (hitI x y)
theorem filterMap_map {f : D → Option Int} (l : List D) : l.filterMap (fun e => (f e).map D.int) = (l.filterMap f).map .int := by
  induction l with
  | nil => rfl
  | cons d l ih =>
    rw [List.filterMap_cons, List.filterMap_cons, ih]
    cases f d <;> rfl
theorem rowE_edge {t r : Nat} : ∀ e ∈ rowE t r, EdgeD e := by
  intro e he
  unfold rowE at he
  obtain ⟨p, _, hp⟩ := List.mem_flatMap.mp he
  obtain ⟨i, hi⟩ := node_pt r ((p : Int) + 1) t
  obtain ⟨j, hj⟩ := node_pt r p t
  unfold rowP at hp
  rw [hi, hj] at hp
  simp only [List.mem_cons, List.not_mem_nil, or_false] at hp
  rcases hp with h | h
  · exact ⟨_, _, _, _, _, h⟩
  · exact ⟨_, _, _, _, _, h⟩
theorem knotE_edge {x y w : D} (hx : ∃ i j, x = pt i j) (hy : ∃ i j, y = pt i j) : ∀ e ∈ knotE x y w, EdgeD e := by
  intro e he
  obtain ⟨i, j, rfl⟩ := hx
  obtain ⟨k, l, rfl⟩ := hy
  unfold knotE at he
  split at he
  · simp only [List.mem_cons, List.not_mem_nil, or_false] at he
    rcases he with h | h <;> exact ⟨_, _, _, _, _, h⟩
  · split at he
    · simp only [List.mem_cons, List.not_mem_nil, or_false] at he; exact ⟨_, _, _, _, _, he⟩
    · split at he
      · simp only [List.mem_cons, List.not_mem_nil, or_false] at he; exact ⟨_, _, _, _, _, he⟩
      · cases he
  · cases he
theorem okEq_pp {i j k l i' j' k' l' : Int} : okEq (.tup [pt i j, pt k l]) (.tup [pt i' j', pt k' l']) := rfl
theorem eqv_pp {i j k l i' j' k' l' : Int} : D.eqv (.tup [pt i j, pt k l]) (.tup [pt i' j', pt k' l']) = decide (pt i j = pt i' j' ∧ pt k l = pt k' l') := by
  rw [D.eqv_dec _ _ rfl rfl]
  congr 1
  simp
/-- [n for one, other, n in l if (one, other) == (x, y)] -/
theorem hits_in {v0 v1 v2 v3 v6 v7 v8 v9 v10 v11 v12 v13 v14 v15 v16 v17 : Option D} {x0 x1 y0 y1 : Int} {l : List D} {gl : List (Addr × O)} {G : Gp} {Q : KD} (hl : ∀ e ∈ l, EdgeD e) (hz : l.length < 1000000) (gf : GOf gl G)
    (k : ∀ p G', G p = none → GSame G G' → G' p = some (.lst ((hits (pt x0 x1) (pt y0 y1) l).map .int)) → Q (.ref p) G') :
    LcIn (qgTup 3 (qgCons (qgName 15) (qgCons (qgName 16) (qgCons (qgName 17) qgNil)))) (qB (qBin rdEq (qTup (qCons (qVar 15) (qCons (qVar 16) qNil))) (qTup (qCons (qVar 4) (qCons (qVar 5) qNil))))) (qVar 17) [15, 16, 17]
      [v0, v1, v2, v3, some (pt x0 x1), some (pt y0 y1), v6, v7, v8, v9, v10, v11, v12, v13, v14, v15, v16, v17] l gl G Q := by
  refine lc_pure (fun e => (hitI (pt x0 x1) (pt y0 y1) e).map .int) gf hz ?_ ?_
  · intro i d e G1 s1 K kk
    obtain ⟨a, b, c, f, n, rfl⟩ := hl d (List.mem_of_getElem? e)
    refine ⟨rfl, le2, le2, rfl, fun h => ?_, fun h => ?_⟩
    · have h : decide (pt a b = pt x0 x1 ∧ pt c f = pt y0 y1) = true := by rw [← eqv_pp]; exact h
      have := kk G1 (.refl _)
      rw [show hitI (pt x0 x1) (pt y0 y1) (.tup [pt a b, pt c f, .int n]) = some n from if_pos (of_decide_eq_true h)] at this
      exact this
    · have h : decide (pt a b = pt x0 x1 ∧ pt c f = pt y0 y1) = false := by rw [← eqv_pp]; exact h
      have := kk G1 (.refl _)
      rw [show hitI (pt x0 x1) (pt y0 y1) (.tup [pt a b, pt c f, .int n]) = none from if_neg (of_decide_eq_false h)] at this
      exact this
  · intro p G1 hp s1 g1
    rw [filterMap_map] at g1
    exact k p G1 hp s1 g1
/-- the row that stands at r -/
def rowAt (rows : List D) (r : Nat) : List D := match rows[r % rows.length]? with
  | some (.tup row) => row
  | _ => []
def knotsAt (t : Nat) (rows : List D) (x y : D) (r : Nat) (q : D) : List Int := match q with
  | .tup [.int s, w] => hits x y (knotE (nodeD r s t) (nodeD r (s + 2) t) w)
  | _ => []
def rowNums (t : Nat) (rows : List D) (last : Nat) (x y : D) (r : Nat) : List Int :=
  (if r ≤ last then hits x y (rowE t r) else []) ++ (if r < last then (zipD (spotsD t r) (rowAt rows r)).flatMap (knotsAt t rows x y r) else [])
def startNum (st : List Int) (x y : D) (p : Nat) : List Int := if st[p]? = some 1 ∧ x = pt 0 p ∧ y = pt 0 (p + 1) then [-1] else if st[p]? = some 0 ∧ x = pt 0 (p + 1) ∧ y = pt 0 p then [0] else []
theorem hits_len (x y : D) (l : List D) : (hits x y l).length ≤ l.length := List.length_filterMap_le _ _
theorem knotE_len (x y w : D) : (knotE x y w).length ≤ 2 := by
  unfold knotE
  split
  · simp
  · split
    · simp
    · split <;> simp
  · simp
theorem rowE_len (t r : Nat) : (rowE t r).length = 2 * t := rowP_len t r t
end K59
end
section
set_option Elab.async false
set_option linter.all false
set_option maxRecDepth 100000
set_option maxHeartbeats 4000000
namespace K59
open PySem PySem.Spec PyProof.Rows L2 TL
/-- the frame of _law_number_of -/
abbrev fr (t rows st many x y last q : D) (r : Option D) (w9 w10 w11 w12 w13 w14 w15 w16 w17 : Option D) : Sd := [some t, some rows, some st, some many, some x, some y, some last, some q, r, w9, w10, w11, w12, w13, w14, w15, w16, w17]
theorem take_flat {α β : Type} (f : α → List β) {l : List α} {i : Nat} {d : α} (h : l[i]? = some d) : (l.take (i + 1)).flatMap f = (l.take i).flatMap f ++ f d := by
  rw [List.take_add_one, h, List.flatMap_append]; simp
section
variable {sR sS sK sN : Spd} (hR : RowOk sR) (hS : SpotsOk sS) (hK : KnotOk sK) (hN : NodeOk sN)
variable {t many last r : Nat} {rows : List D} {stD : D} {x0 x1 y0 y1 : Int} {w9 w10 w11 w12 w13 w14 w15 w16 w17 : Option D} {E : EndsD} {G : Gp} {q : Addr} {nums : List Int}
theorem rowAt_get (hrows : RowsOk t rows) (hl : 0 < rows.length) : atI rows ((r : Int) % (rows.length : Int)) = some (.tup (rowAt rows r)) ∧ (∀ e ∈ rowAt rows r, wishOk e) ∧ (rowAt rows r).length ≤ 8 ∨ 16 < t := by
  by_cases ht : 16 < t
  · exact .inr ht
  left
  have hlt : r % rows.length < rows.length := Nat.mod_lt _ hl
  have e := List.getElem?_eq_getElem hlt
  obtain ⟨row, h1, h2, h3⟩ := hrows _ _ e
  have er : rowAt rows r = row := by unfold rowAt; rw [e, h1]
  refine ⟨?_, by rw [er]; exact h3, by rw [er, h2, spots_len]; omega⟩
  have ec : ((r : Int) % (rows.length : Int)) = ((r % rows.length : Nat) : Int) := by omega
  rw [ec, er, ← h1]
  exact L2.atI_nat e
include hS hK hN in
theorem knots_part (ht : 2 ≤ t) (ht2 : t ≤ 16) (hrows : RowsOk t rows) (hl : 0 < rows.length) (hlast : last ≤ 1000000) (gq : G q = some (.lst (nums.map .int))) (hz : nums.length ≤ 10000)
    (k : ∀ q' u9 u10 u11 u12 u13 u14 u15 u16 u17 G' nums', GSame G G' → G' q' = some (.lst (nums'.map .int)) → nums'.length ≤ nums.length + 16 → nums' = nums ++ (if r < last then (zipD (spotsD t r) (rowAt rows r)).flatMap (knotsAt t rows (pt x0 x1) (pt y0 y1) r) else []) →
      E.nx (fr (.int t) (.tup rows) stD (.int many) (pt x0 x1) (pt y0 y1) (.int last) (.ref q') (some (.int r)) u9 u10 u11 u12 u13 u14 u15 u16 u17) G') :
    rd__law_number_of_3 sR sS sK sN E (fr (.int t) (.tup rows) stD (.int many) (pt x0 x1) (pt y0 y1) (.int last) (.ref q) (some (.int r)) w9 w10 w11 w12 w13 w14 w15 w16 w17) G := by
  refine ⟨fun h => ?_, fun h => ?_⟩
  · have h : r < last := by have := of_decide_eq_true h; omega
    obtain ⟨ra1, ra2, ra3⟩ := (rowAt_get (r := r) hrows hl).resolve_right (by omega)
    refine hS ht ht2 (by omega) fun ps G1 hps s1 g1 => ⟨(show (0 : Int) < rows.length by omega), _, ra1, spotsD t r, rowAt rows r, g1, rfl, ?_⟩
    have lz : (zipD (spotsD t r) (rowAt rows r)).length ≤ 8 := by rw [zipD_len]; exact Nat.le_trans (Nat.min_le_right _ _) ra3
    refine ⟨fun j ρ G' => ∃ q' u9 u10 u11 u15 u16 u17 nums', ρ = fr (.int t) (.tup rows) stD (.int many) (pt x0 x1) (pt y0 y1) (.int last) (.ref q') (some (.int r)) u9 u10 u11 w12 w13 w14 u15 u16 u17 ∧ GSame G1 G' ∧ G' q' = some (.lst (nums'.map .int)) ∧ nums'.length ≤ nums.length + 2 * j ∧ nums' = nums ++ ((zipD (spotsD t r) (rowAt rows r)).take j).flatMap (knotsAt t rows (pt x0 x1) (pt y0 y1) r),
      ⟨q, w9, w10, w11, w15, w16, w17, nums, rfl, .refl _, s1 _ _ gq, by omega, by simp⟩, ?_, ?_, ?_⟩
    · rintro j ρ G' ⟨_, _, _, _, _, _, _, _, rfl, s2, _⟩ _
      exact ⟨s2 _ _ g1, trivial⟩
    · rintro j d ρ G2 ed ⟨q', u9, u10, u11, u15, u16, u17, nums', rfl, s2, g2, hn, rfl⟩
      have hj := (List.getElem?_eq_some_iff.mp ed).1
      obtain ⟨sD, w, rfl, e1, e2⟩ := zipD_get ed
      unfold spotsD at e1
      rw [List.getElem?_map] at e1
      obtain ⟨s, _, rfl⟩ := Option.map_eq_some_iff.mp e1
      have hw := ra2 w (List.mem_of_getElem? e2)
      refine ⟨rfl, hN (hN (hK hw fun p3 G3 hp3 s3 g3 => ⟨_, g3, ?_⟩))⟩
      obtain ⟨i1, n1⟩ := node_pt (r : Int) (s : Int) (t : Int)
      obtain ⟨i2, n2⟩ := node_pt (r : Int) ((s : Int) + 2) (t : Int)
      have lk := knotE_len (nodeD (r : Int) (s : Int) (t : Int)) (nodeD (r : Int) ((s : Int) + 2) (t : Int)) w
      refine hits_in (knotE_edge ⟨_, _, n1⟩ ⟨_, _, n2⟩) (by omega) ⟨g3, trivial⟩ fun p4 G4 hp4 s4 g4 => ⟨_, _, s4 _ _ (s3 _ _ g2), g4, ?_, fun p5 hp5 => ?_⟩
      · have := hits_len (pt x0 x1) (pt y0 y1) (knotE (nodeD (r : Int) (s : Int) (t : Int)) (nodeD (r : Int) ((s : Int) + 2) (t : Int)) w)
        rw [List.length_map, List.length_map, sizeLine_eq]; omega
      · refine ⟨p5, _, _, _, _, _, _, _, rfl, ((s2.trans s3).trans s4).trans (.new hp5), by rw [gup_same, ← List.map_append], ?_, ?_⟩
        · have := hits_len (pt x0 x1) (pt y0 y1) (knotE (nodeD (r : Int) (s : Int) (t : Int)) (nodeD (r : Int) ((s : Int) + 2) (t : Int)) w)
          rw [List.length_append]; omega
        · rw [take_flat _ ed, List.append_assoc]; rfl
    · rintro ρ G2 ⟨q', u9, u10, u11, u15, u16, u17, nums', rfl, s2, g2, hn, rfl⟩
      refine k _ _ _ _ _ _ _ _ _ _ _ _ (s1.trans s2) g2 (by omega) ?_
      rw [if_pos h, List.take_length]
  · have h : ¬ r < last := by have := of_decide_eq_false h; omega
    exact k _ _ _ _ _ _ _ _ _ _ _ _ (.refl _) gq (by omega) (by rw [if_neg h, List.append_nil])
include hR hS hK hN in
/-- one row -/
theorem row_part (ht : 2 ≤ t) (ht2 : t ≤ 16) (hrows : RowsOk t rows) (hl : 0 < rows.length) (hlast : last ≤ 1000000) (gq : G q = some (.lst (nums.map .int))) (hz : nums.length ≤ 1000)
    (k : ∀ q' u9 u10 u11 u12 u13 u14 u15 u16 u17 G' nums', GSame G G' → G' q' = some (.lst (nums'.map .int)) → nums'.length ≤ nums.length + 48 → nums' = nums ++ rowNums t rows last (pt x0 x1) (pt y0 y1) r →
      E.nx (fr (.int t) (.tup rows) stD (.int many) (pt x0 x1) (pt y0 y1) (.int last) (.ref q') (some (.int r)) u9 u10 u11 u12 u13 u14 u15 u16 u17) G') :
    rd__law_number_of_4 sR sS sK sN E (fr (.int t) (.tup rows) stD (.int many) (pt x0 x1) (pt y0 y1) (.int last) (.ref q) (some (.int r)) w9 w10 w11 w12 w13 w14 w15 w16 w17) G := by
  have fin : ∀ q1 u15 u16 u17 G1 nums1, GSame G G1 → G1 q1 = some (.lst (nums1.map .int)) → nums1.length ≤ nums.length + 32 → nums1 = nums ++ (if r ≤ last then hits (pt x0 x1) (pt y0 y1) (rowE t r) else []) →
      rd__law_number_of_3 sR sS sK sN E (fr (.int t) (.tup rows) stD (.int many) (pt x0 x1) (pt y0 y1) (.int last) (.ref q1) (some (.int r)) w9 w10 w11 w12 w13 w14 u15 u16 u17) G1 := by
    intro q1 u15 u16 u17 G1 nums1 s1 g1 hn1 e1
    refine knots_part hS hK hN ht ht2 hrows hl hlast g1 (by omega) fun q' u9 u10 u11 u12 u13 u14 u15 u16 u17 G' nums' s2 g2 hn2 e2 => ?_
    refine k _ _ _ _ _ _ _ _ _ _ _ _ (s1.trans s2) g2 (by omega) ?_
    rw [e2, e1, List.append_assoc]; rfl
  refine ⟨fun h => ?_, fun h => ?_⟩
  · have h : r ≤ last := by have := of_decide_eq_true h; omega
    refine hR ht2 fun p1 G1 hp1 s1 g1 => ⟨_, g1, ?_⟩
    have lr := rowE_len t r
    refine hits_in rowE_edge (by omega) ⟨g1, trivial⟩ fun p2 G2 hp2 s2 g2 => ⟨_, _, s2 _ _ (s1 _ _ gq), g2, ?_, fun p3 hp3 => ?_⟩
    · have := hits_len (pt x0 x1) (pt y0 y1) (rowE t r)
      rw [List.length_map, List.length_map, sizeLine_eq]; omega
    · refine fin p3 _ _ _ _ _ ((s1.trans s2).trans (.new hp3)) (by rw [gup_same, ← List.map_append]) ?_ ?_
      · have := hits_len (pt x0 x1) (pt y0 y1) (rowE t r)
        rw [List.length_append]; omega
      · rw [if_pos h]
  · have h : ¬ r ≤ last := by have := of_decide_eq_false h; omega
    exact fin q _ _ _ G nums (.refl _) gq (by omega) (by rw [if_neg h, List.append_nil])
end
end K59
end
section
set_option Elab.async false
set_option linter.all false
set_option maxRecDepth 100000
set_option maxHeartbeats 4000000
namespace K59
open PySem PySem.Spec PyProof.Rows L2 TL
theorem int_at {st : List Int} {p : Nat} {z : Int} (h : st[p]? = some z) : atI (st.map D.int) (p : Int) = some (.int z) := L2.atI_nat (by rw [List.getElem?_map, h]; rfl)
section
variable {sR sS sK sN : Spd}
variable {t many last p : Nat} {rows : List D} {st : List Int} {x0 x1 y0 y1 : Int} {r w9 w10 w11 w13 w14 w15 w16 w17 : Option D} {E : EndsD} {G : Gp} {q : Addr} {nums : List Int}
theorem start_if2 {z : Int} (hz : st[p]? = some z) {K : KD} (k : ∀ res p5, G p5 = none → res.length ≤ 1 → res = (if st[p]? = some 0 ∧ pt x0 x1 = pt 0 ((p : Int) + 1) ∧ pt y0 y1 = pt 0 p then [0] else []) → K (.ref p5) (gup G p5 (.lst (res.map .int)))) :
    (qIf (qAndT (qB (qBin rdEq (qBin rdIx (qVar 2) (qVar 12)) (qC (.int 0)))) (qB (qBin rdEq (qTup (qCons (qVar 4) (qCons (qVar 5) qNil))) (qTup (qCons (qVar 14) (qCons (qVar 13) qNil)))))) (qLst (qCons (qC (.int 0)) qNil)) (qLst qNil))
      (fr (.int t) (.tup rows) (.tup (st.map .int)) (.int many) (pt x0 x1) (pt y0 y1) (.int last) (.ref q) r w9 w10 w11 (some (.int p)) (some (pt 0 p)) (some (pt 0 ((p : Int) + 1))) w15 w16 w17) G K := by
  refine ⟨_, int_at hz, rfl, fun h3 => ⟨le2, le2, rfl, fun h4 => ⟨(by show 1 ≤ 1000; decide), fun p5 hp5 => ?_⟩, fun h4 => ⟨(by show 0 ≤ 1000; decide), fun p5 hp5 => ?_⟩⟩, fun h3 => Br.f' ⟨(by show 0 ≤ 1000; decide), fun p5 hp5 => ?_⟩⟩
  · have h3 : z = 0 := beq0.mp h3
    have h4 : decide (pt x0 x1 = pt 0 ((p : Int) + 1) ∧ pt y0 y1 = pt 0 p) = true := by rw [← eqv_pp]; exact h4
    have h4 := of_decide_eq_true h4
    exact k [0] p5 hp5 (by decide) (by rw [if_pos ⟨by rw [hz, h3], h4⟩])
  · have h4 : decide (pt x0 x1 = pt 0 ((p : Int) + 1) ∧ pt y0 y1 = pt 0 p) = false := by rw [← eqv_pp]; exact h4
    have h4 := of_decide_eq_false h4
    exact k [] p5 hp5 (by decide) (by rw [if_neg fun z => h4 z.2])
  · have h3 : ¬ z = 0 := neb h3
    exact k [] p5 hp5 (by decide) (by rw [if_neg fun e => h3 (by have := e.1; rw [hz] at this; exact Option.some.inj this)])
theorem start_part {z : Int} (hz : st[p]? = some z) (gq : G q = some (.lst (nums.map .int))) (hn : nums.length ≤ 1000)
    (k : ∀ q' u13 u14 G' nums', GSame G G' → G' q' = some (.lst (nums'.map .int)) → nums'.length ≤ nums.length + 1 → nums' = nums ++ startNum st (pt x0 x1) (pt y0 y1) p →
      E.nx (fr (.int t) (.tup rows) (.tup (st.map .int)) (.int many) (pt x0 x1) (pt y0 y1) (.int last) (.ref q') r w9 w10 w11 (some (.int p)) u13 u14 w15 w16 w17) G') :
    rd__law_number_of_6 sR sS sK sN E (fr (.int t) (.tup rows) (.tup (st.map .int)) (.int many) (pt x0 x1) (pt y0 y1) (.int last) (.ref q) r w9 w10 w11 (some (.int p)) w13 w14 w15 w16 w17) G := by
  have fin : ∀ res p5, G p5 = none → res.length ≤ 1 → res = startNum st (pt x0 x1) (pt y0 y1) p → rdAdd (.ref q) (.ref p5) (gup G p5 (.lst (res.map .int))) fun d G1 => qgName 7 d (fr (.int t) (.tup rows) (.tup (st.map .int)) (.int many) (pt x0 x1) (pt y0 y1) (.int last) (.ref q) r w9 w10 w11 (some (.int p)) (some (pt 0 p)) (some (pt 0 ((p : Int) + 1))) w15 w16 w17) G1 E.nx := by
    intro res p5 hp5 hr er
    refine ⟨_, _, by rw [gup_ne (gne_none gq hp5)]; exact gq, gup_same, by rw [List.length_map, List.length_map, sizeLine_eq]; omega, fun p6 hp6 => ?_⟩
    exact k p6 _ _ _ _ ((GSame.new hp5).trans (.new hp6)) (by rw [gup_same, ← List.map_append]) (by rw [List.length_append]; omega) (by rw [er])
  refine ⟨le2, le2, le2, _, int_at hz, rfl, fun h1 => ⟨le2, le2, rfl, fun h2 => ⟨(by show 1 ≤ 1000; decide), fun p5 hp5 => ?_⟩, fun h2 => ?_⟩, fun h1 => Br.f' ?_⟩
  · have h1 : z = 1 := beq0.mp h1
    have h2 : decide (pt x0 x1 = pt 0 p ∧ pt y0 y1 = pt 0 ((p : Int) + 1)) = true := by rw [← eqv_pp]; exact h2
    exact fin [-1] p5 hp5 (by decide) (by unfold startNum; rw [if_pos ⟨by rw [hz, h1], of_decide_eq_true h2⟩])
  · have h2 : decide (pt x0 x1 = pt 0 p ∧ pt y0 y1 = pt 0 ((p : Int) + 1)) = false := by rw [← eqv_pp]; exact h2
    refine start_if2 hz fun res p5 hp5 hr er => fin res p5 hp5 hr ?_
    unfold startNum
    rw [if_neg fun e => of_decide_eq_false h2 e.2]
    exact er
  · have h1 : ¬ z = 1 := neb h1
    refine start_if2 hz fun res p5 hp5 hr er => fin res p5 hp5 hr ?_
    unfold startNum
    rw [if_neg fun e => h1 (by have := e.1; rw [hz] at this; exact Option.some.inj this)]
    exact er
end
/-- a number that is told of the two -/
def EdgeN (t : Nat) (rows : List D) (st : List Int) (many : Nat) (x0 x1 y0 y1 : Nat) (n : Int) : Prop :=
  (∃ r : Nat, (r = x0 ∨ r = x0 + 1 ∨ r = y0 ∨ r = y0 + 1) ∧ n ∈ rowNums t rows (rows.length * many) (pt x0 x1) (pt y0 y1) r) ∨ ∃ p, p < t ∧ n ∈ startNum st (pt x0 x1) (pt y0 y1) p
def NumOfOk (s : Spd) : Prop := ∀ {t many x0 x1 y0 y1 : Nat} {rows : List D} {st : List Int} {G : Gp} {Q : KD}, 2 ≤ t → t ≤ 16 → RowsOk t rows → 0 < rows.length → rows.length ≤ 60 → st.length = t → many ≤ 10000 →
  (∀ G', GSame G G' → (∀ n, ¬ EdgeN t rows st many x0 x1 y0 y1 n) → Q .non G') → (∀ m G', GSame G G' → EdgeN t rows st many x0 x1 y0 y1 m → (∀ n, EdgeN t rows st many x0 x1 y0 y1 n → m ≤ n) → Q (.int m) G') →
  s [.int t, .tup rows, .tup (st.map .int), .int many, pt x0 x1, pt y0 y1] G Q
theorem _root_.List.Nodup.subperm_len {l m : List Int} (h : l.Nodup) (s : ∀ k ∈ l, k ∈ m) : l.length ≤ m.length := by
  induction l generalizing m with
  | nil => exact Nat.zero_le _
  | cons a l ih =>
    obtain ⟨h1, h2⟩ := List.nodup_cons.mp h
    have ha := s a List.mem_cons_self
    have := ih (m := m.erase a) h2 fun k hk => by
      have ne : k ≠ a := fun e => h1 (e ▸ hk)
      exact (List.mem_erase_of_ne ne).mpr (s k (List.mem_cons_of_mem _ hk))
    rw [List.length_erase_of_mem ha] at this
    have hp : 0 < m.length := List.length_pos_of_mem ha
    rw [List.length_cons]; omega
theorem numof_ok {sR sS sK sN : Spd} (hR : RowOk sR) (hS : SpotsOk sS) (hK : KnotOk sK) (hN : NodeOk sN) : NumOfOk (spB 18 6 (rd__law_number_of sR sS sK sN)) := by
  intro t many x0 x1 y0 y1 rows st G Q ht ht2 hrows hl hl2 hst hm k0 k1
  have hlast : rows.length * many ≤ 1000000 := Nat.le_trans (Nat.mul_le_mul hl2 hm) (by decide)
  have cm : CM (rows.length : Int) (many : Int) := .inl (.inl ⟨by omega, by omega⟩)
  have hcast : ((rows.length * many : Nat) : Int) = (rows.length : Int) * (many : Int) := rfl
  refine ⟨rfl, cm, (by decide), fun p0 hp0 => ⟨le2, (by show 4 ≤ 1000; decide), fun p1 hp1 => ⟨[(x0 : Int), (x0 : Int) + 1, (y0 : Int), (y0 : Int) + 1], gup_same, (by show 4 < 60; decide), fun out p2 hso hmem hp2 => ?_⟩⟩⟩
  have e1 : gup (gup G p0 (.lst [])) p1 (.lst [.int (x0 : Int), .int ((x0 : Int) + 1), .int (y0 : Int), .int ((y0 : Int) + 1)]) p0 = some (.lst []) := by
    rw [gup_ne (fun e => by subst e; rw [gup_same] at hp1; cases hp1), gup_same]
  have sa : GSame G (gup (gup (gup G p0 (.lst [])) p1 (.lst [.int (x0 : Int), .int ((x0 : Int) + 1), .int (y0 : Int), .int ((y0 : Int) + 1)])) p2 (.lst (out.map .int))) := ((GSame.new hp0).trans (.new hp1)).trans (.new hp2)
  have e0 : gup (gup (gup G p0 (.lst [])) p1 (.lst [.int (x0 : Int), .int ((x0 : Int) + 1), .int (y0 : Int), .int ((y0 : Int) + 1)])) p2 (.lst (out.map .int)) p0 = some (.lst []) := GSame.new hp2 _ _ e1
  have e2 : gup (gup (gup G p0 (.lst [])) p1 (.lst [.int (x0 : Int), .int ((x0 : Int) + 1), .int (y0 : Int), .int ((y0 : Int) + 1)])) p2 (.lst (out.map .int)) p2 = some (.lst (out.map .int)) := gup_same
  refine ⟨out.map .int, e2, ?_⟩
  have hlen : out.length ≤ 4 := by
    have nd : out.Nodup := hso.imp fun h => Int.ne_of_lt h
    have := List.Nodup.subperm_len nd fun k hk => (hmem k).mp hk
    exact this
  generalize gup (gup (gup G p0 (.lst [])) p1 (.lst [.int (x0 : Int), .int ((x0 : Int) + 1), .int (y0 : Int), .int ((y0 : Int) + 1)])) p2 (.lst (out.map .int)) = G1 at sa e0 e2 ⊢
  have natOf : ∀ z ∈ out, ∃ r : Nat, z = (r : Int) ∧ (r = x0 ∨ r = x0 + 1 ∨ r = y0 ∨ r = y0 + 1) := by
    intro z hz
    have := (hmem z).mp hz
    simp only [List.mem_cons, List.not_mem_nil, or_false] at this
    rcases this with h | h | h | h
    · exact ⟨x0, h, .inl rfl⟩
    · exact ⟨x0 + 1, by omega, .inr (.inl rfl)⟩
    · exact ⟨y0, h, .inr (.inr (.inl rfl))⟩
    · exact ⟨y0 + 1, by omega, .inr (.inr (.inr rfl))⟩
  refine ⟨fun i ρ G' => ∃ q r8 u9 u10 u11 u12 u13 u14 u15 u16 u17 nums, ρ = fr (.int t) (.tup rows) (.tup (st.map .int)) (.int many) (pt x0 x1) (pt y0 y1) (.int ((rows.length * many : Nat) : Int)) (.ref q) r8 u9 u10 u11 u12 u13 u14 u15 u16 u17 ∧ GSame G1 G' ∧ G' q = some (.lst (nums.map .int)) ∧ nums.length ≤ 48 * i ∧
      ∀ n, n ∈ nums ↔ ∃ r : Nat, (∃ j, j < i ∧ out[j]? = some (r : Int)) ∧ n ∈ rowNums t rows (rows.length * many) (pt x0 x1) (pt y0 y1) r,
    ⟨p0, none, none, none, none, none, none, none, none, none, none, [], rfl, .refl _, e0, by simp, fun n => ⟨fun h => (nomatch h), fun ⟨r, ⟨j, hj, _⟩, _⟩ => absurd hj (Nat.not_lt_zero j)⟩⟩, ?_, ?_, ?_⟩
  · rintro i ρ G' ⟨_, _, _, _, _, _, _, _, _, _, _, _, rfl, s2, _⟩ _
    exact ⟨s2 _ _ e2, trivial⟩
  · rintro i d ρ G2 ed ⟨q, r8, u9, u10, u11, u12, u13, u14, u15, u16, u17, nums, rfl, s2, g2, hn, hmm⟩
    obtain ⟨z, rfl, ez⟩ := ints_get ed
    obtain ⟨r, rfl, hr⟩ := natOf z (List.mem_of_getElem? ez)
    have hi := (List.getElem?_eq_some_iff.mp ez).1
    refine row_part hR hS hK hN ht ht2 hrows hl hlast g2 (by omega) fun q' u9 u10 u11 u12 u13 u14 u15 u16 u17 G' nums' s3 g3 hn3 e3 => ?_
    refine ⟨q', some (.int r), u9, u10, u11, u12, u13, u14, u15, u16, u17, nums', rfl, s2.trans s3, g3, by omega, fun n => ?_⟩
    rw [e3, List.mem_append, hmm]
    constructor
    · rintro (⟨r', ⟨j, hj, ej⟩, h⟩ | h)
      · exact ⟨r', ⟨j, by omega, ej⟩, h⟩
      · exact ⟨r, ⟨i, by omega, ez⟩, h⟩
    · rintro ⟨r', ⟨j, hj, ej⟩, h⟩
      by_cases q : j < i
      · exact .inl ⟨r', ⟨j, q, ej⟩, h⟩
      · have : j = i := by omega
        subst this
        rw [ez] at ej
        have : r = r' := by have := Option.some.inj ej; omega
        subst this
        exact .inr h
  · rintro ρ G2 ⟨q, r8, u9, u10, u11, u12, u13, u14, u15, u16, u17, nums, rfl, s2, g2, hn, hmm⟩
    rw [List.length_map] at hn hmm
    have hmm2 : ∀ n, n ∈ nums ↔ ∃ r : Nat, (r = x0 ∨ r = x0 + 1 ∨ r = y0 ∨ r = y0 + 1) ∧ n ∈ rowNums t rows (rows.length * many) (pt x0 x1) (pt y0 y1) r := by
      intro n
      rw [hmm]
      constructor
      · rintro ⟨r, ⟨j, _, ej⟩, h⟩
        obtain ⟨r', e, hr⟩ := natOf _ (List.mem_of_getElem? ej)
        have : r = r' := by omega
        subst this
        exact ⟨r, hr, h⟩
      · rintro ⟨r, hr, h⟩
        have : (r : Int) ∈ out := (hmem r).mpr (by
          simp only [List.mem_cons, List.not_mem_nil, or_false]
          rcases hr with h | h | h | h <;> omega)
        obtain ⟨j, hj⟩ := List.getElem?_of_mem this
        exact ⟨r, ⟨j, (List.getElem?_eq_some_iff.mp hj).1, hj⟩, h⟩
    clear hmm
    -- the start
    refine ⟨⟨by omega, by omega⟩, ?_⟩
    have el : (rangeD 0 ((t : Int)).toNat 1).length = t := by rw [rangeD_len]; simp
    refine ⟨fun i ρ G' => ∃ q r8 u9 u10 u11 u12 u13 u14 u15 u16 u17 nums', ρ = fr (.int t) (.tup rows) (.tup (st.map .int)) (.int many) (pt x0 x1) (pt y0 y1) (.int ((rows.length * many : Nat) : Int)) (.ref q) r8 u9 u10 u11 u12 u13 u14 u15 u16 u17 ∧ GSame G2 G' ∧ G' q = some (.lst (nums'.map .int)) ∧ nums'.length ≤ nums.length + i ∧
      ∀ n, n ∈ nums' ↔ n ∈ nums ∨ ∃ p, p < i ∧ n ∈ startNum st (pt x0 x1) (pt y0 y1) p,
      ⟨q, r8, u9, u10, u11, u12, u13, u14, u15, u16, u17, nums, rfl, .refl _, g2, by omega, fun n => ⟨.inl, fun h => h.elim id fun ⟨p, hp, _⟩ => absurd hp (Nat.not_lt_zero p)⟩⟩, fun _ _ _ _ _ => trivial, ?_, ?_⟩
    · rintro i d ρ G3 ed ⟨q, r8, u9, u10, u11, u12, u13, u14, u15, u16, u17, nums', rfl, s3, g3, hn3, hm3⟩
      obtain ⟨rfl, hi⟩ := rangeD_get ed
      have hi : i < t := by simpa using hi
      have ei : (0 : Int) + (i : Nat) * 1 = (i : Int) := by omega
      rw [ei]
      refine start_part (List.getElem?_eq_getElem (by omega : i < st.length)) g3 (by omega) fun q' u13 u14 G' nums2 s4 g4 hn4 e4 => ?_
      refine ⟨q', r8, u9, u10, u11, some (.int i), u13, u14, u15, u16, u17, nums2, rfl, s3.trans s4, g4, by omega, fun n => ?_⟩
      rw [e4, List.mem_append, hm3]
      constructor
      · rintro ((h | ⟨p, hp, h⟩) | h)
        · exact .inl h
        · exact .inr ⟨p, by omega, h⟩
        · exact .inr ⟨i, by omega, h⟩
      · rintro (h | ⟨p, hp, h⟩)
        · exact .inl (.inl h)
        · by_cases e : p < i
          · exact .inl (.inr ⟨p, e, h⟩)
          · have : p = i := by omega
            subst this; exact .inr h
    · rintro ρ G3 ⟨q, r8, u9, u10, u11, u12, u13, u14, u15, u16, u17, nums', rfl, s3, g3, hn3, hm3⟩
      rw [el] at hm3
      have hE : ∀ n, n ∈ nums' ↔ EdgeN t rows st many x0 x1 y0 y1 n := by
        intro n
        rw [hm3, hmm2]; rfl
      refine ⟨(by decide), fun p5 hp5 => ⟨_, _, by rw [gup_ne (gne_none g3 hp5)]; exact g3, gup_same, okL_ints nums', rfl, fun z => ?_, fun z => ?_⟩⟩
      · have hne : 0 < nums'.length := by
          cases nums' with
          | nil => exact nomatch (show false = true from z)
          | cons => simp
        refine ⟨nums', by rw [gup_ne (gne_none g3 hp5)]; exact g3, hne, fun m h1 h2 => ?_⟩
        exact k1 m _ (((sa.trans s2).trans s3).trans (.new hp5)) ((hE m).mp h1) fun n hn => h2 n ((hE n).mpr hn)
      · have : nums' = [] := by
          cases nums' with
          | nil => rfl
          | cons => exact nomatch (show true = false from z)
        subst this
        exact k0 _ (((sa.trans s2).trans s3).trans (.new hp5)) fun n hn => nomatch (hE n).mpr hn
end K59
end
section
set_option Elab.async false
set_option linter.all false
set_option maxRecDepth 100000
set_option maxHeartbeats 4000000
namespace K59
open PySem PySem.Spec PyProof.Rows L2 TL
structure Wsh where
  x0 : Nat
  x1 : Nat
  y0 : Nat
  y1 : Nat
  n : Int
def wD (w : Wsh) : D := .tup [pt w.x0 w.x1, pt w.y0 w.y1, .int w.n]
def lineD (l : List Wsh) : D := .tup (l.map wD)
def rot (l : List Wsh) : List Wsh := l.drop 1 ++ l.take 1
def Chain (l : List Wsh) : Prop := ∀ p ∈ l.zip (rot l), p.1.y0 = p.2.x0 ∧ p.1.y1 = p.2.x1
def Small (w : Wsh) : Prop := w.x0 ≤ 1000000 ∧ w.x1 ≤ 1000000 ∧ w.y0 ≤ 1000000 ∧ w.y1 ≤ 1000000 ∧ -99 ≤ w.n ∧ w.n ≤ 99
def NumIs (t : Nat) (rows : List D) (st : List Int) (many : Nat) (w : Wsh) : Prop := EdgeN t rows st many w.x0 w.x1 w.y0 w.y1 w.n ∧ ∀ n, EdgeN t rows st many w.x0 w.x1 w.y0 w.y1 n → w.n ≤ n
def IsFar (t : Nat) (rows : List D) (st : List Int) (many : Nat) (l : List Wsh) : Prop := (1 ≤ many ∧ many ≤ 9999) ∧ l ≠ [] ∧ (∀ w ∈ l, NumIs t rows st many w) ∧ Chain l ∧ (l.map (·.n)).sum < 0
theorem line_flat (l : List Wsh) : D.flats (l.map wD) = true ∧ D.deps (l.map wD) ≤ 2 ∧ D.keyoks (l.map wD) = true := by
  induction l with
  | nil => exact ⟨rfl, Nat.zero_le _, rfl⟩
  | cons w l ih =>
    obtain ⟨h1, h2, h3⟩ := ih
    refine ⟨?_, ?_, ?_⟩
    · show (D.flat (wD w) && D.flats (l.map wD)) = true; rw [h1]; rfl
    · show max (D.dep (wD w)) (D.deps (l.map wD)) ≤ 2; exact Nat.max_le.mpr ⟨Nat.le_refl 2, h2⟩
    · show (D.keyok (wD w) && D.keyoks (l.map wD)) = true; rw [h3]; rfl
theorem line_ok (l : List Wsh) : okEq (lineD l) (.tup []) := by
  unfold okEq lineD
  have h := line_flat l
  simp [D.flat, D.flats, D.dep, D.deps, h.1]; omega
theorem line_nil (l : List Wsh) : D.eqv (lineD l) (.tup []) = l.isEmpty := by
  cases l <;> rfl
theorem line_get {l : List Wsh} {i : Nat} {d : D} (h : (l.map wD)[i]? = some d) : ∃ w, d = wD w ∧ l[i]? = some w := by
  rw [List.getElem?_map] at h
  obtain ⟨w, e, rfl⟩ := Option.map_eq_some_iff.mp h
  exact ⟨w, rfl, e⟩
theorem pt_inj {a b c d : Nat} : pt a b = pt c d ↔ a = c ∧ b = d := by
  constructor
  · intro h
    have h := D.tup.inj h
    simp only [List.cons.injEq, D.int.injEq] at h
    omega
  · rintro ⟨rfl, rfl⟩; rfl
def FarOk (s : Spd) : Prop := ∀ {t many : Nat} {rows : List D} {st : List Int} {l : List Wsh} {G : Gp} {Q : KD}, 2 ≤ t → t ≤ 16 → RowsOk t rows → 0 < rows.length → rows.length ≤ 60 → st.length = t → l.length ≤ 1000 → (∀ w ∈ l, Small w) →
  (∀ b G', GSame G G' → (b = true ↔ IsFar t rows st many l) → Q (.bl b) G') → s [.int t, .tup rows, .tup (st.map .int), .tup [.str "never", .int many, lineD l]] G Q
theorem isNum_int {i lo hi : Int} (h1 : lo ≤ i) (h2 : i ≤ hi) : isNum (.int i) lo hi = true := by
  show (decide (lo ≤ i) && decide (i ≤ hi)) = true
  rw [decide_eq_true h1, decide_eq_true h2]; rfl
theorem isNum_iff {i lo hi : Int} : isNum (.int i) lo hi = true ↔ lo ≤ i ∧ i ≤ hi := by
  show (decide (lo ≤ i) && decide (i ≤ hi)) = true ↔ _
  simp
theorem zip_get {l m : List Wsh} {i : Nat} {d : D} (h : (zipD (l.map wD) (m.map wD))[i]? = some d) : ∃ a b, d = .tup [wD a, wD b] ∧ (l.zip m)[i]? = some (a, b) := by
  obtain ⟨x, y, rfl, h1, h2⟩ := zipD_get h
  obtain ⟨a, rfl, e1⟩ := line_get h1
  obtain ⟨b, rfl, e2⟩ := line_get h2
  exact ⟨a, b, rfl, by rw [List.getElem?_zip_eq_some]; exact ⟨e1, e2⟩⟩
theorem cut_lo (ds : List D) (k : Nat) : TL.cutD ds (some (k : Int)) none = ds.drop k := by
  unfold TL.cutD
  rw [HT.sIx_nat, HT.sIx_none]
  by_cases h : k ≤ ds.length
  · rw [Nat.min_eq_left h, List.take_of_length_le (by rw [List.length_drop]; omega)]
  · rw [Nat.min_eq_right (by omega), List.drop_eq_nil_of_le (Nat.le_refl _), List.drop_eq_nil_of_le (by omega)]; simp
theorem cut_hi (ds : List D) (k : Nat) : TL.cutD ds none (some (k : Int)) = ds.take k := by
  unfold TL.cutD
  rw [HT.sIx_nat, HT.sIx_none, List.drop_zero, Nat.sub_zero]
  by_cases h : k ≤ ds.length
  · rw [Nat.min_eq_left h]
  · rw [Nat.min_eq_right (by omega), List.take_of_length_le (Nat.le_refl _), List.take_of_length_le (by omega)]
theorem rot_map (l : List Wsh) : (rot l).map wD = TL.cutD (l.map wD) (some 1) none ++ TL.cutD (l.map wD) none (some 1) := by
  rw [show (1 : Int) = ((1 : Nat) : Int) from rfl, cut_lo, cut_hi, ← List.map_drop, ← List.map_take, ← List.map_append]; rfl
def brk (p : Wsh × Wsh) : Option Int := if p.1.y0 = p.2.x0 ∧ p.1.y1 = p.2.x1 then none else some 1
def brkF : D → Option D
  | .tup [.tup [_, y, _], .tup [x, _, _]] => if y = x then none else some (.int 1)
  | _ => none
theorem brkF_eq (a b : Wsh) : brkF (.tup [wD a, wD b]) = (brk (a, b)).map .int := by
  show (if pt a.y0 a.y1 = pt b.x0 b.x1 then none else some (D.int 1)) = _
  unfold brk
  by_cases h : a.y0 = b.x0 ∧ a.y1 = b.x1
  · rw [if_pos (pt_inj.mpr h), if_pos h]; rfl
  · rw [if_neg (fun z => h (pt_inj.mp z)), if_neg h]; rfl
theorem zip_brk : ∀ (l m : List Wsh), (zipD (l.map wD) (m.map wD)).filterMap brkF = ((l.zip m).filterMap brk).map .int
  | [], _ => rfl
  | _ :: _, [] => rfl
  | a :: l, b :: m => by
    show ((D.tup [wD a, wD b]) :: zipD (l.map wD) (m.map wD)).filterMap brkF = (((a, b) :: l.zip m).filterMap brk).map .int
    rw [List.filterMap_cons, List.filterMap_cons, zip_brk l m, brkF_eq]
    cases brk (a, b) <;> rfl
theorem chain_brk (l : List Wsh) : ((l.zip (rot l)).filterMap brk).isEmpty = true ↔ Chain l := by
  rw [List.isEmpty_iff, List.filterMap_eq_nil_iff]
  constructor
  · intro h p hp
    have := h p hp
    unfold brk at this
    by_cases q : p.1.y0 = p.2.x0 ∧ p.1.y1 = p.2.x1
    · exact q
    · rw [if_neg q] at this; cases this
  · intro h p hp
    exact if_pos (h p hp)
theorem map_fm {f : D → Option D} {g : Wsh → Int} (h : ∀ w, f (wD w) = some (.int (g w))) : ∀ l : List Wsh, (l.map wD).filterMap f = (l.map g).map .int
  | [] => rfl
  | w :: l => by rw [List.map_cons, List.filterMap_cons, h, map_fm h l]; rfl
def nF : D → Option D
  | .tup [_, _, n] => some n
  | _ => none
theorem none_fm : ∀ l : List D, l.filterMap (fun _ => (none : Option D)) = []
  | [] => rfl
  | _ :: l => by rw [List.filterMap_cons]; exact none_fm l
theorem far_ok {sI sN : Spd} (hI : NumOk sI) (hN : NumOfOk sN) : FarOk (spB 12 4 (rd__law_is_far_ring sI sN)) := by
  intro t many rows st l G Q ht ht2 hrows hl hl2 hst hll hsm k
  have lf := line_flat l
  refine ⟨rfl, le2, ?_⟩
  -- the first test
  refine hI (fun a => by intro z; cases z) ⟨fun h1 => ?_, fun h1 => ⟨(by show 0 ≤ 1000; decide), line_ok l, fun h2 => ?_, fun h2 => ?_⟩⟩
  · refine Br.t' (k false G (.refl _) ⟨fun z => (nomatch z), fun z => ?_⟩)
    rw [isNum_int (by have := z.1.1; omega) (by have := z.1.2; omega)] at h1; cases h1
  · refine k false G (.refl _) ⟨fun z => (nomatch z), fun z => ?_⟩
    have h2 : l.isEmpty = true := by rw [← line_nil]; exact h2
    exact absurd (List.isEmpty_iff.mp h2) z.2.1
  have hm : 1 ≤ many ∧ many ≤ 9999 := by
    have : isNum (.int (many : Int)) 1 9999 = true := by
      cases e : isNum (.int (many : Int)) 1 9999 with
      | true => rfl
      | false => rw [e] at h1; cases h1
    have := isNum_iff.mp this; omega
  have hne : l ≠ [] := by
    intro e; subst e
    exact nomatch (show true = false from h2)
  -- for x, y, n in line
  refine ⟨l.map wD, rfl, fun i ρ G' => ∃ w6 w7 w8 w9, ρ = [some (.int t), some (.tup rows), some (.tup (st.map .int)), some (.tup [.str "never", .int many, lineD l]), some (.int many), some (lineD l), w6, w7, w8, w9, none, none] ∧ GSame G G' ∧ ∀ (j : Nat) (w : Wsh), j < i → l[j]? = some w → NumIs t rows st many w,
    ⟨none, none, none, none, rfl, .refl _, fun j w hj => absurd hj (Nat.not_lt_zero j)⟩, fun _ _ _ _ _ => trivial, ?_, ?_⟩
  · rintro i d ρ G1 ed ⟨w6, w7, w8, w9, rfl, s1, hj⟩
    obtain ⟨w, rfl, ew⟩ := line_get ed
    have hw := List.mem_of_getElem? ew
    obtain ⟨b1, b2, b3, b4, b5, b6⟩ := hsm w hw
    refine ⟨rfl, (by rw [sizeLine_eq]; show 2 + 2 ≤ _; omega), [.int w.x0, .int w.x1, .int w.y0, .int w.y1], rfl, ?_⟩
    refine lc_pure (fun _ => none) ?_ ?_ ?_ ?_
    · trivial
    · show 4 < 1000000; decide
    · intro i' d' e' G2 s2 K kk
      have : ∃ z : Int, d' = .int z ∧ 0 ≤ z ∧ z ≤ 1000000 := by
        have := List.mem_of_getElem? e'
        simp only [List.mem_cons, List.not_mem_nil, or_false] at this
        rcases this with h | h | h | h
        · exact ⟨_, h, by omega, by omega⟩
        · exact ⟨_, h, by omega, by omega⟩
        · exact ⟨_, h, by omega, by omega⟩
        · exact ⟨_, h, by omega, by omega⟩
      obtain ⟨z, rfl, z0, z1⟩ := this
      refine ⟨⟨by decide, by decide, by decide⟩, hI (fun a => by intro z; cases z) ?_⟩
      have e6 : (10 : Int) ^ (6 : Int).toNat = 1000000 := by decide
      show Br (!isNum (.int z) 0 ((10 : Int) ^ (6 : Int).toNat)) _ _
      rw [e6, isNum_int z0 z1]
      exact Br.f' (kk G2 (.refl _))
    · intro p2 G2 hp2 s2 g2
      rw [none_fm] at g2
      refine ⟨(by decide), fun p3 hp3 => ⟨[], [], by rw [gup_ne (gne_none g2 hp3)]; exact g2, gup_same, rfl, rfl, Br.f' (hI (fun a => by intro z; cases z) ?_)⟩⟩
      show Br (!isNum (.int w.n) (-99) 99) _ _
      rw [isNum_int b5 b6]
      refine Br.f' ?_
      -- the number
      have s3 : GSame G (gup G2 p3 (.lst [])) := (s1.trans s2).trans (.new hp3)
      refine hN ht ht2 hrows hl hl2 hst (by omega) (fun G4 s4 hno => ⟨rfl, Br.t' ?_⟩) (fun m G4 s4 hm1 hm2 => ⟨rfl, fun h => ?_, fun h => ?_⟩)
      · refine k false G4 (s3.trans s4) ⟨fun z => (nomatch z), fun z => ?_⟩
        exact absurd (z.2.2.1 w hw).1 (hno w.n)
      · have h : ¬ m = w.n := by
          have : (!(m == w.n)) = true := h
          simpa using this
        refine k false G4 (s3.trans s4) ⟨fun z => (nomatch z), fun z => ?_⟩
        have q := z.2.2.1 w hw
        have := hm2 _ q.1
        have := q.2 _ hm1
        omega
      · have h : m = w.n := by
          have : (!(m == w.n)) = false := h
          simpa using this
        refine ⟨_, _, _, _, rfl, s3.trans s4, fun j w' hj' e' => ?_⟩
        by_cases q : j < i
        · exact hj j w' q e'
        · have : j = i := by omega
          subst this
          rw [ew] at e'; cases e'
          subst h; exact ⟨hm1, hm2⟩
  · rintro ρ G1 ⟨w6, w7, w8, w9, rfl, s1, hj⟩
    have hall : ∀ w ∈ l, NumIs t rows st many w := fun w hw => by
      obtain ⟨j, e⟩ := List.getElem?_of_mem hw
      exact hj j w (by rw [List.length_map]; exact (List.getElem?_eq_some_iff.mp e).1) e
    refine ⟨(by
      show (TL.cutD (l.map wD) (some 1) none).length + (TL.cutD (l.map wD) none (some 1)).length ≤ sizeLine
      rw [← List.length_append, ← rot_map, List.length_map, sizeLine_eq]
      unfold rot; rw [List.length_append, List.length_drop, List.length_take]; omega), _, _, rfl, rfl, ?_⟩
    rw [← rot_map]
    refine lc_pure brkF ?_ ?_ ?_ ?_
    · trivial
    · rw [zipD_len, List.length_map]; omega
    · intro i d ed G2 s2 K kk
      obtain ⟨a, b, rfl, _⟩ := zip_get ed
      have := kk G2 (.refl _)
      refine ⟨rfl, rfl, fun h => ?_, fun h => ?_⟩
      · have h : ¬ pt a.y0 a.y1 = pt b.x0 b.x1 := by
          have h : (!D.eqv (pt a.y0 a.y1) (pt b.x0 b.x1)) = true := h
          rw [D.eqv_dec _ _ rfl rfl] at h
          simpa using h
        rw [show brkF (.tup [wD a, wD b]) = some (.int 1) from if_neg h] at this
        exact this
      · have h : pt a.y0 a.y1 = pt b.x0 b.x1 := by
          have h : (!D.eqv (pt a.y0 a.y1) (pt b.x0 b.x1)) = false := h
          rw [D.eqv_dec _ _ rfl rfl] at h
          simpa using h
        rw [show brkF (.tup [wD a, wD b]) = none from if_pos h] at this
        exact this
    · intro p2 G2 hp2 s2 g2
      rw [zip_brk] at g2
      refine ⟨(by decide), fun p3 hp3 => ⟨_, _, by rw [gup_ne (gne_none g2 hp3)]; exact g2, gup_same, okL_ints _, rfl, fun h => ?_, fun h => ?_⟩⟩
      · have hc : Chain l := (chain_brk l).mp (by rw [← eqvs_nil]; exact h)
        refine ⟨l.map wD, rfl, ?_⟩
        refine lc_pure nF ?_ ?_ ?_ ?_
        · trivial
        · rw [List.length_map]; omega
        · intro i d ed G4 s4 K kk
          obtain ⟨w, rfl, _⟩ := line_get ed
          exact ⟨fun _ => kk G4 (.refl _), fun z => nomatch z⟩
        · intro p4 G4 hp4 s4 g4
          rw [map_fm (f := nF) (g := fun w => w.n) fun _ => rfl] at g4
          refine ⟨l.map (fun w : Wsh => w.n), g4, ?_⟩
          refine k _ _ (((s1.trans s2).trans (.new hp3)).trans s4) ⟨fun z => ?_, fun z => ?_⟩
          · exact ⟨hm, hne, hall, hc, of_decide_eq_true z⟩
          · exact decide_eq_true z.2.2.2.2
      · refine k false _ ((s1.trans s2).trans (.new hp3)) ⟨fun z => (nomatch z), fun z => ?_⟩
        have := (chain_brk l).mpr z.2.2.2.1
        rw [← eqvs_nil] at this
        rw [show D.eqvs (((l.zip (rot l)).filterMap brk).map .int) [] = false from h] at this
        cases this
end K59
end
section
set_option Elab.async false
set_option linter.all false
set_option maxRecDepth 100000
set_option maxHeartbeats 4000000
namespace K59
open PySem PySem.Spec PyProof.Rows L2 TL
/-! ### the web -/
def webfs (t m : Nat) (d : Addr) : List (Str × D) := [("threads", .int t), ("many", .int m), ("told", .ref d)]
theorem wf_t {t m : Nat} {d : Addr} : fget (webfs t m d) "threads" = some (.int t) := by kernel_rfl
theorem wf_m {t m : Nat} {d : Addr} : fget (webfs t m d) "many" = some (.int m) := by kernel_rfl
theorem wf_d {t m : Nat} {d : Addr} : fget (webfs t m d) "told" = some (.ref d) := by kernel_rfl
theorem wf_1 {t m : Nat} {d : Addr} : fget (webfs t m d) "tell" = none := by kernel_rfl
theorem wf_2 {t m : Nat} {d : Addr} : fget (webfs t m d) "at" = none := by kernel_rfl
theorem wf_3 {t m : Nat} {d : Addr} : fget (webfs t m d) "tell_knot" = none := by kernel_rfl
theorem wf_4 {t m : Nat} {d : Addr} : fget (webfs t m d) "tell_line" = none := by kernel_rfl
theorem wf_new {t m : Nat} {d : Addr} : fput "told" (.ref d) (fput "many" (.int m) (fput "threads" (.int t) [])) = webfs t m d := by kernel_rfl
def key (x y : D) : D := .tup [x, y]
/-- the dict tells the least of all that was told -/
structure Rep (kvs : List (D × D)) (L : List D) : Prop where
  at_ : ∀ i j k l : Int, match dget kvs (key (pt i j) (pt k l)) with
    | none => pt i j = pt k l ∨ ∀ n, n ∉ hits (pt i j) (pt k l) L
    | some d => ∃ m, d = .int m ∧ pt i j ≠ pt k l ∧ m ∈ hits (pt i j) (pt k l) L ∧ ∀ n ∈ hits (pt i j) (pt k l) L, m ≤ n
  len : kvs.length ≤ L.length
structure WS (C a d : Addr) (t m : Nat) (L : List D) (G : Gp) : Prop where
  ob : G a = some (.ins C (webfs t m d))
  dc : ∃ kvs, G d = some (.tct kvs) ∧ Rep kvs L
def Fd (d : Addr) (G G' : Gp) : Prop := ∀ x o, x ≠ d → G x = some o → G' x = some o
theorem Fd.refl (d : Addr) (G : Gp) : Fd d G G := fun _ _ _ h => h
theorem Fd.trans {d : Addr} {G G1 G2 : Gp} (h : Fd d G G1) (h' : Fd d G1 G2) : Fd d G G2 := fun x o n e => h' x o n (h x o n e)
theorem Fd.same {d : Addr} {G G' : Gp} (h : GSame G G') : Fd d G G' := fun x o _ e => h x o e
theorem WS.same {C a d : Addr} {t m : Nat} {L : List D} {G G' : Gp} (w : WS C a d t m L G) (h : GSame G G') : WS C a d t m L G' :=
  ⟨h _ _ w.ob, let ⟨kvs, e, r⟩ := w.dc; ⟨kvs, h _ _ e, r⟩⟩
theorem hits_app (x y : D) (L M : List D) : hits x y (L ++ M) = hits x y L ++ hits x y M := List.filterMap_append
theorem hits_one (i j k l i' j' k' l' n : Int) : hits (pt i j) (pt k l) [.tup [pt i' j', pt k' l', .int n]] = if pt i' j' = pt i j ∧ pt k' l' = pt k l then [n] else [] := by
  unfold hits
  rw [List.filterMap_cons, List.filterMap_nil]
  by_cases h : pt i' j' = pt i j ∧ pt k' l' = pt k l
  · rw [if_pos h, show hitI (pt i j) (pt k l) (.tup [pt i' j', pt k' l', .int n]) = some n from if_pos h]
  · rw [if_neg h, show hitI (pt i j) (pt k l) (.tup [pt i' j', pt k' l', .int n]) = none from if_neg h]
theorem key_ne {x y x' y' : D} (h : ¬ (x = x' ∧ y = y')) : key x' y' ≠ key x y := fun e => h (by
  have e := D.tup.inj e
  simp only [List.cons.injEq] at e
  exact ⟨e.1.symm, e.2.1.symm⟩)
/-- a fresh or smaller number is written -/
theorem Rep.put {kvs : List (D × D)} {L : List D} (r : Rep kvs L) {i j k l n : Int} (hne : pt i j ≠ pt k l) (hmin : ∀ n' ∈ hits (pt i j) (pt k l) L, n ≤ n') :
    Rep (dput kvs (key (pt i j) (pt k l)) (.int n)) (L ++ [.tup [pt i j, pt k l, .int n]]) := by
  refine ⟨fun i' j' k' l' => ?_, ?_⟩
  · rw [dget_put]
    by_cases h : pt i j = pt i' j' ∧ pt k l = pt k' l'
    · obtain ⟨h1, h2⟩ := h
      rw [← h1, ← h2, if_pos rfl]
      refine ⟨n, rfl, hne, ?_, fun n' hn' => ?_⟩
      · rw [hits_app, hits_one, if_pos ⟨rfl, rfl⟩]; simp
      · rw [hits_app, hits_one, if_pos ⟨rfl, rfl⟩, List.mem_append] at hn'
        rcases hn' with h | h
        · exact hmin n' h
        · simp at h; omega
    · rw [if_neg (key_ne h), hits_app, hits_one, if_neg h, List.append_nil]
      exact r.at_ i' j' k' l'
  · have := dput_len kvs (key (pt i j) (pt k l)) (.int n)
    have := r.len
    rw [List.length_append]; simp; omega
/-- nothing is written -/
theorem Rep.skip {kvs : List (D × D)} {L : List D} (r : Rep kvs L) {i j k l n : Int} (h : pt i j = pt k l ∨ ∃ m ∈ hits (pt i j) (pt k l) L, m ≤ n) : Rep kvs (L ++ [.tup [pt i j, pt k l, .int n]]) := by
  refine ⟨fun i' j' k' l' => ?_, by have := r.len; rw [List.length_append]; omega⟩
  have q := r.at_ i' j' k' l'
  rw [hits_app, hits_one]
  by_cases e : pt i j = pt i' j' ∧ pt k l = pt k' l'
  · obtain ⟨e1, e2⟩ := e
    rw [if_pos ⟨e1, e2⟩]
    cases g : dget kvs (key (pt i' j') (pt k' l')) with
    | none =>
      rw [g] at q
      rcases q with q | q
      · exact .inl q
      · rcases h with h | ⟨m, hm, _⟩
        · left; rw [← e1, ← e2]; exact h
        · rw [e1, e2] at hm; exact absurd hm (q m)
    | some d =>
      rw [g] at q
      obtain ⟨m, rfl, q1, q2, q3⟩ := q
      refine ⟨m, rfl, q1, by simp [q2], fun n' hn' => ?_⟩
      rw [List.mem_append] at hn'
      rcases hn' with z | z
      · exact q3 n' z
      · simp at z
        subst z
        rcases h with h | ⟨m', hm', hle⟩
        · exact absurd (by rw [← e1, ← e2]; exact h) q1
        · rw [e1, e2] at hm'
          have := q3 m' hm'; omega
  · rw [if_neg e, List.append_nil]; exact q
def TellOk (C : Addr) (s : Spd) : Prop := ∀ {a d : Addr} {t m : Nat} {L : List D} {i j k l n : Int} {G : Gp} {Q : KD}, WS C a d t m L G → L.length < 1000000 →
  (∀ G', WS C a d t m (L ++ [.tup [pt i j, pt k l, .int n]]) G' → Fd d G G' → Q .non G') → s [.ref a, pt i j, pt k l, .int n] G Q
theorem tkey_key (i j k l : Int) : (key (pt i j) (pt k l)).tkey = true := rfl
theorem tell_ok (C : Addr) : TellOk C (sp_Web_tell C) := by
  intro a d t m L i j k l n G Q ws hL kk
  obtain ⟨kvs, gd, r⟩ := ws.dc
  have ga := ws.ob
  have nad : a ≠ d := gne_of ga gd (by intro z; cases z)
  have q := r.at_ i j k l
  have hlen := r.len
  have hsz : kvs.length < sizeLine := by rw [sizeLine_eq]; omega
  have skip : (pt i j = pt k l ∨ ∃ m ∈ hits (pt i j) (pt k l) L, m ≤ n) → Q .non G := fun h => kk G ⟨ga, kvs, gd, r.skip h⟩ (.refl _ _)
  have store : pt i j ≠ pt k l → (∀ n' ∈ hits (pt i j) (pt k l) L, n ≤ n') → Q .non (gup G d (.tct (dput kvs (key (pt i j) (pt k l)) (.int n)))) := fun h1 h2 =>
    kk _ ⟨by rw [gup_ne nad]; exact ga, _, gup_same, r.put h1 h2⟩ fun x o h e => by rw [gup_ne h]; exact e
  have second : (∀ b : Bool, (b = true → Q .non (gup G d (.tct (dput kvs (key (pt i j) (pt k l)) (.int n))))) → (b = false → Q .non G) → True) := fun _ _ _ => trivial
  refine ⟨rfl, rfl, fun h1 => ?_, fun h1 => ?_⟩
  · have hne : pt i j ≠ pt k l := by
      have h1 : (!D.eqv (pt i j) (pt k l)) = true := h1
      rw [D.eqv_dec _ _ rfl rfl] at h1
      simpa using h1
    refine ⟨le2, _, ga, _, wf_d, _, gd, tkey_key i j k l, fun h2 => ?_, fun h2 => ?_⟩
    · -- not there
      have h2 : dget kvs (key (pt i j) (pt k l)) = none := by
        have h2 : (!(dget kvs (key (pt i j) (pt k l))).isSome) = true := h2
        cases e : dget kvs (key (pt i j) (pt k l)) with
        | none => rfl
        | some z => rw [e] at h2; cases h2
      rw [h2] at q
      refine Br.t' ⟨_, ga, _, wf_d, le2, _, gd, tkey_key i j k l, hsz, store hne fun n' hn' => ?_⟩
      rcases q with q | q
      · exact absurd q hne
      · exact absurd hn' (q n')
    · -- there
      have h2 : ∃ z, dget kvs (key (pt i j) (pt k l)) = some z := by
        have h2 : (!(dget kvs (key (pt i j) (pt k l))).isSome) = false := h2
        cases e : dget kvs (key (pt i j) (pt k l)) with
        | none => rw [e] at h2; cases h2
        | some z => exact ⟨z, rfl⟩
      obtain ⟨z, h2⟩ := h2
      rw [h2] at q
      obtain ⟨m', rfl, _, q2, q3⟩ := q
      refine ⟨_, ga, _, wf_d, ⟨_, gd⟩, le2, _, gd, tkey_key i j k l, ?_⟩
      rw [show dget kvs (D.tup [pt i j, pt k l]) = _ from h2]
      refine ⟨fun h3 => ?_, fun h3 => ?_⟩
      · have h3 : n < m' := of_decide_eq_true h3
        refine ⟨_, ga, _, wf_d, le2, _, gd, tkey_key i j k l, hsz, store hne fun n' hn' => ?_⟩
        have := q3 n' hn'; omega
      · have h3 : ¬ n < m' := of_decide_eq_false h3
        exact skip (.inr ⟨m', q2, by omega⟩)
  · have heq : pt i j = pt k l := by
      have h1 : (!D.eqv (pt i j) (pt k l)) = false := h1
      rw [D.eqv_dec _ _ rfl rfl] at h1
      simpa using h1
    have hn : dget kvs (key (pt i j) (pt k l)) = none := by
      cases e : dget kvs (key (pt i j) (pt k l)) with
      | none => rfl
      | some z => rw [e] at q; obtain ⟨_, _, q1, _⟩ := q; exact absurd heq q1
    refine Br.f' ⟨_, ga, _, wf_d, ⟨_, gd⟩, le2, _, gd, tkey_key i j k l, ?_⟩
    rw [show dget kvs (D.tup [pt i j, pt k l]) = _ from hn]
    refine ⟨fun h3 => ?_, fun h3 => skip (.inl heq)⟩
    exact absurd (of_decide_eq_true h3) (Int.lt_irrefl n)
def AtOk (C : Addr) (s : Spd) : Prop := ∀ {a d : Addr} {t m : Nat} {L : List D} {r c : Int} {G : Gp} {Q : KD}, WS C a d t m L G → Q (nodeD r c t) G → s [.ref a, .int r, .int c] G Q
theorem at_ok {C : Addr} {sN : Spd} (hN : NodeOk sN) : AtOk C (spB 3 3 (rd_Web_at C sN)) := by
  intro a d t m L r c G Q ws q
  exact ⟨rfl, _, ws.ob, _, wf_t, hN q⟩
end K59
end
section
set_option Elab.async false
set_option linter.all false
set_option maxRecDepth 100000
set_option maxHeartbeats 4000000
namespace K59
open PySem PySem.Spec PyProof.Rows L2 TL
theorem WS.ins {C a d : Addr} {t m : Nat} {L : List D} {G : Gp} (w : WS C a d t m L G) {x : Str} (h : fget (webfs t m d) x = none) : isIns C x (.ref a) G := ⟨_, w.ob, h⟩
def TellKnotOk (C : Addr) (s : Spd) : Prop := ∀ {a d : Addr} {t m : Nat} {L : List D} {r c : Int} {w : D} {G : Gp} {Q : KD}, WS C a d t m L G → L.length < 900000 → wishOk w →
  (∀ G', WS C a d t m (L ++ knotE (nodeD r c t) (nodeD r (c + 2) t) w) G' → Fd d G G' → Q .non G') → s [.ref a, .int r, .int c, w] G Q
theorem tell_knot_ok {C : Addr} {sA sT : Spd} (hA : AtOk C sA) (hT : TellOk C sT) : TellKnotOk C (spB 6 4 (rd_Web_tell_knot C sA sT)) := by
  intro a d t m L r c w G Q ws hL hw k
  obtain ⟨i, n1⟩ := node_pt r c t
  obtain ⟨j, n2⟩ := node_pt r (c + 2) t
  rw [n1, n2] at k
  refine ⟨rfl, ws.ins wf_2, hA ws ⟨ws.ins wf_2, hA ws ⟨le2, ?_⟩⟩⟩
  rw [n1, n2]
  unfold wishOk at hw
  simp only [List.mem_cons, List.not_mem_nil, or_false] at hw
  have tupc : ∀ u v : Int, w = .tup [.int u, .int v] → rd_Web_tell_knot_3 C sA sT (endsD Q) [some (.ref a), some (.int r), some (.int c), some w, some (pt i c), some (pt j (c + 2))] G := by
    rintro u v rfl
    have hs : [u, v].sum = u + v := by simp
    refine Br.t' ⟨ws.ins wf_1, [u, v], rfl, ?_⟩
    show sT [.ref a, pt i c, pt j (c + 2), .int (-[u, v].sum)] G _
    rw [hs]
    refine hT ws (by omega) fun G1 ws1 f1 => ⟨ws1.ins wf_1, [u, v], rfl, ?_⟩
    show sT [.ref a, pt j (c + 2), pt i c, .int [u, v].sum] G1 _
    rw [hs]
    refine hT ws1 (by rw [List.length_append]; simp; omega) fun G2 ws2 f2 => k G2 ?_ (f1.trans f2)
    rw [List.append_assoc] at ws2
    have : knotE (pt i c) (pt j (c + 2)) (.tup [.int u, .int v]) = [.tup [pt i c, pt j (c + 2), .int (-(u + v))]] ++ [.tup [pt j (c + 2), pt i c, .int (u + v)]] := by
      show [D.tup [pt i c, pt j (c + 2), .int (0 - (u + v))], .tup [pt j (c + 2), pt i c, .int (u + v)]] = _
      rw [show 0 - (u + v) = -(u + v) by omega]; rfl
    rw [this]; exact ws2
  rcases hw with rfl | rfl | rfl | rfl | rfl | rfl
  · refine Br.f' ⟨rfl, Br.f' ⟨rfl, Br.f' (k G ?_ (.refl _ _))⟩⟩
    show WS C a d t m (L ++ []) G
    rw [List.append_nil]; exact ws
  · refine Br.f' ⟨rfl, Br.f' ⟨rfl, Br.t' ⟨ws.ins wf_1, hT ws (by omega) fun G1 ws1 f1 => k G1 ws1 f1⟩⟩⟩
  · refine Br.f' ⟨rfl, Br.t' ⟨ws.ins wf_1, hT ws (by omega) fun G1 ws1 f1 => k G1 ws1 f1⟩⟩
  · exact tupc 0 0 rfl
  · exact tupc 0 1 rfl
  · exact tupc 1 1 rfl
/-! a line that is told -/
def startP (st : List Int) (p : Nat) : List D := if st[p]? = some 1 then [.tup [pt 0 p, pt 0 ((p : Int) + 1), .int (-1)]] else if st[p]? = some 0 then [.tup [pt 0 ((p : Int) + 1), pt 0 p, .int 0]] else []
def startE (st : List Int) : List D := (List.range st.length).flatMap (startP st)
theorem node0 (c t : Int) : nodeD 0 c t = pt 0 c := node_pole (.inr (.inr rfl))
theorem startP_len (st : List Int) (p : Nat) : (startP st p).length ≤ 1 := by
  unfold startP
  split
  · simp
  · split <;> simp
theorem flat_len {α : Type} (f : Nat → List α) (b : Nat) (h : ∀ i, (f i).length ≤ b) : ∀ i, ((List.range i).flatMap f).length ≤ b * i
  | 0 => Nat.le_refl _
  | i + 1 => by rw [fm_take, List.length_append, Nat.mul_add]; have := flat_len f b h i; have := h i; omega
def TellLineOk (C : Addr) (s : Spd) : Prop := ∀ {a d : Addr} {t m : Nat} {L : List D} {G : Gp} {Q : KD}, WS C a d t m L G → L.length < 900000 →
  (∀ {st : List Int}, st.length ≤ 16 → (∀ G', WS C a d t m (L ++ startE st) G' → Fd d G G' → Q .non G') → s [.ref a, .int 0, .tup (st.map .int)] G Q) ∧ ∀ {r : Int}, Q .non G → s [.ref a, .int r, .non] G Q
theorem enum_int {st : List Int} {i : Nat} {d : D} (h : (enumD (st.map D.int))[i]? = some d) : ∃ z, d = .tup [.int (i : Nat), .int z] ∧ st[i]? = some z := by
  obtain ⟨x, rfl, e⟩ := enumD_get h
  obtain ⟨z, rfl, ez⟩ := ints_get e
  exact ⟨z, rfl, ez⟩
theorem tell_line_ok {C : Addr} {sA sT : Spd} (hA : AtOk C sA) (hT : TellOk C sT) : TellLineOk C (spB 7 3 (rd_Web_tell_line C sA sT)) := by
  intro a d t m L G Q ws hL
  refine ⟨fun {st} hst k => ?_, fun {r} q => ?_⟩
  · refine ⟨rfl, Br.t' ⟨st.map .int, rfl, fun i ρ G' => ∃ w3 w4 w5 w6, ρ = [some (.ref a), some (.int 0), some (.tup (st.map .int)), w3, w4, w5, w6] ∧ WS C a d t m (L ++ (List.range i).flatMap (startP st)) G' ∧ Fd d G G',
      ⟨none, none, none, none, rfl, by simpa using ws, .refl _ _⟩, fun _ _ _ _ _ => trivial, ?_, ?_⟩⟩
    · rintro i dd ρ G1 ed ⟨w3, w4, w5, w6, rfl, ws1, f1⟩
      obtain ⟨z, rfl, ez⟩ := enum_int ed
      have hi : i < st.length := (List.getElem?_eq_some_iff.mp ez).1
      have lenL : (L ++ (List.range i).flatMap (startP st)).length < 1000000 := by
        have := flat_len (startP st) 1 (startP_len st) i
        rw [List.length_append]; omega
      refine ⟨rfl, ws1.ins wf_2, hA ws1 ⟨ws1.ins wf_2, hA ws1 ⟨le2, ?_⟩⟩⟩
      rw [node0, node0]
      refine ⟨rfl, fun h1 => ⟨ws1.ins wf_1, hT ws1 lenL fun G2 ws2 f2 => ⟨_, _, _, _, rfl, ?_, f1.trans f2⟩⟩, fun h1 => ⟨rfl, fun h2 => ⟨ws1.ins wf_1, hT ws1 lenL fun G2 ws2 f2 => ⟨_, _, _, _, rfl, ?_, f1.trans f2⟩⟩, fun h2 => ⟨_, _, _, _, rfl, ?_, f1⟩⟩⟩
      · have h1 : z = 1 := beq0.mp h1
        rw [fm_take, ← List.append_assoc, show startP st i = [.tup [pt 0 i, pt 0 ((i : Int) + 1), .int (-1)]] from if_pos (by rw [ez, h1])]
        exact ws2
      · have h1 : ¬ z = 1 := neb h1
        have h2 : z = 0 := beq0.mp h2
        rw [fm_take, ← List.append_assoc, show startP st i = [.tup [pt 0 ((i : Int) + 1), pt 0 i, .int 0]] by unfold startP; rw [if_neg (by rw [ez]; intro e; exact h1 (Option.some.inj e)), if_pos (by rw [ez, h2])]]
        exact ws2
      · have h1 : ¬ z = 1 := neb h1
        have h2 : ¬ z = 0 := neb h2
        rw [fm_take, ← List.append_assoc, show startP st i = [] by unfold startP; rw [if_neg (by rw [ez]; intro e; exact h1 (Option.some.inj e)), if_neg (by rw [ez]; intro e; exact h2 (Option.some.inj e))], List.append_nil]
        exact ws1
    · rintro ρ G1 ⟨w3, w4, w5, w6, rfl, ws1, f1⟩
      rw [enumD_len, List.length_map] at ws1
      exact k G1 ws1 f1
  · refine ⟨rfl, Br.f' ⟨(by show 0 ≤ 1000; decide), [], rfl, fun i ρ G' => G' = G, rfl, fun _ _ _ _ _ => trivial, ?_, ?_⟩⟩
    · rintro i dd ρ G1 ed _
      exact nomatch ed
    · rintro ρ G1 rfl
      exact q
end K59
end
section
set_option Elab.async false
set_option linter.all false
set_option maxRecDepth 100000
set_option maxHeartbeats 4000000
namespace K59
open PySem PySem.Spec PyProof.Rows L2 TL
def knotP (t r : Nat) (q : D) : List D := match q with
  | .tup [.int s, w] => knotE (nodeD r s t) (nodeD r (s + 2) t) w
  | _ => []
def knotRow (t : Nat) (rows : List D) (r : Nat) : List D := (zipD (spotsD t r) (rowAt rows r)).flatMap (knotP t r)
/-- all that the web of m motifs is told -/
def webL (t : Nat) (rows : List D) (st : List Int) (m : Nat) : List D := ((List.range (m * rows.length + 1)).flatMap (rowE t) ++ (List.range (m * rows.length)).flatMap (knotRow t rows)) ++ startE st
theorem rep_get (rows : List D) : ∀ (m r : Nat), r < m * rows.length → (repD m rows)[r]? = rows[r % rows.length]?
  | 0, r, h => by simp at h
  | m + 1, r, h => by
    show (rows ++ repD m rows)[r]? = _
    by_cases q : r < rows.length
    · rw [List.getElem?_append_left q, Nat.mod_eq_of_lt q]
    · have e : (m + 1) * rows.length = m * rows.length + rows.length := by rw [Nat.add_mul, Nat.one_mul]
      have hm : r - rows.length < m * rows.length := by omega
      rw [List.getElem?_append_right (by omega), rep_get rows m _ hm]
      congr 1
      exact (Nat.mod_eq_sub_mod (by omega)).symm
theorem rep_len (rows : List D) : ∀ m, (repD m rows).length = m * rows.length
  | 0 => by simp [repD]
  | m + 1 => by show (rows ++ repD m rows).length = _; rw [List.length_append, rep_len rows m, Nat.add_mul, Nat.one_mul]; omega
theorem knotRow_len (t : Nat) (rows : List D) (r : Nat) (h : (rowAt rows r).length ≤ 8) : (knotRow t rows r).length ≤ 16 := by
  unfold knotRow
  have : ∀ l : List D, (l.flatMap (knotP t r)).length ≤ 2 * l.length := by
    intro l
    induction l with
    | nil => simp
    | cons x l ih =>
      rw [List.flatMap_cons, List.length_append]
      have : (knotP t r x).length ≤ 2 := by
        unfold knotP
        split
        · exact knotE_len _ _ _
        · simp
      rw [List.length_cons]; omega
  have h1 := this (zipD (spotsD t r) (rowAt rows r))
  rw [zipD_len] at h1
  have := Nat.min_le_right (spotsD t r).length (rowAt rows r).length
  omega
def taskD (t : Nat) (rows : List D) (st : List Int) (m : Nat) : D := .tup [.str "task", .int t, .tup (repD m rows), .tup (st.map .int), .non, .non]
def InitOk (C : Addr) (s : Spd) : Prop := ∀ {a : Addr} {t m : Nat} {rows : List D} {st : List Int} {G : Gp} {Q : KD}, 2 ≤ t → t ≤ 16 → RowsOk t rows → 0 < rows.length → rows.length ≤ 60 → m ≤ 3 → st.length ≤ 16 → G a = some (.ins C []) →
  (∀ d G', WS C a d t (m * rows.length) (webL t rows st m) G' → (∀ x o, x ≠ a → G x = some o → G' x = some o) → Q .non G') → s [.ref a, taskD t rows st m] G Q
section
variable {C : Addr} {sT sA sS sK sL : Spd} (hT : TellOk C sT) (hA : AtOk C sA) (hS : SpotsOk sS) (hK : TellKnotOk C sK) (hL : TellLineOk C sL)
include hT hA in
/-- one place of one row -/
theorem init_place {a d : Addr} {t M r p : Nat} {L : List D} {x : D} {w4 w5 w6 : Option D} {G : Gp} {E : EndsD} (ws : WS C a d t M L G) (hl : L.length < 900000)
    (k : ∀ G', WS C a d t M (L ++ rowP t r p) G' → Fd d G G' → E.nx [some (.ref a), some x, some (.int r), some (.int p), w4, w5, w6] G') :
    rd_Web___init___2 C sT sA sS sK sL E [some (.ref a), some x, some (.int r), some (.int p), w4, w5, w6] G := by
  obtain ⟨i, n1⟩ := node_pt r ((p : Int) + 1) t
  obtain ⟨j, n2⟩ := node_pt r p t
  refine ⟨ws.ins wf_1, ws.ins wf_2, hA ws ⟨ws.ins wf_2, hA ws ?_⟩⟩
  rw [n1, n2]
  refine hT ws (by omega) fun G1 ws1 f1 => ⟨ws1.ins wf_1, ws1.ins wf_2, hA ws1 ⟨ws1.ins wf_2, hA ws1 ?_⟩⟩
  rw [n1, n2]
  refine hT ws1 (by rw [List.length_append]; simp; omega) fun G2 ws2 f2 => k G2 ?_ (f1.trans f2)
  rw [List.append_assoc] at ws2
  unfold rowP
  rw [n1, n2]; exact ws2
include hT hA hS hK hL in
theorem init_ok : InitOk C (spB 7 2 (rd_Web___init__ C sT sA sS sK sL)) := by
  intro a t m rows st G Q ht ht2 hrows hl0 hl hm hst ha k
  have hM : m * rows.length ≤ 180 := Nat.le_trans (Nat.mul_le_mul hm hl) (by decide)
  refine ⟨rfl, fun d hd => ⟨le3, rfl, ?_⟩⟩
  have nad : a ≠ d := gne_none ha hd
  refine ⟨[], by rw [gup_ne nad]; exact ha, (by decide), _, gup_same, (by show 1 < 1000; decide), _, gup_same, (by show 2 < 1000; decide), ?_⟩
  rw [gup_gup, gup_gup, rep_len]
  have hw : fput "told" (.ref d) (fput "many" (.int ((m * rows.length : Nat) : Int)) (fput "threads" (.int (t : Int)) [])) = webfs t (m * rows.length) d := wf_new
  rw [hw]
  have ws0 : WS C a d t (m * rows.length) [] (gup (gup G d (.tct [])) a (.ins C (webfs t (m * rows.length) d))) :=
    ⟨gup_same, [], by rw [gup_ne nad.symm, gup_same], ⟨(fun i j k l => .inr fun n h => (nomatch h)), Nat.le_refl _⟩⟩
  have f0 : ∀ x o, x ≠ a → G x = some o → gup (gup G d (.tct [])) a (.ins C (webfs t (m * rows.length) d)) x = some o := fun x o n e => by
    rw [gup_ne n, gup_ne (gne_none e hd)]; exact e
  generalize gup (gup G d (.tct [])) a (.ins C (webfs t (m * rows.length) d)) = G0 at ws0 f0 ⊢
  generalize hMM : m * rows.length = M at ws0 hM k ⊢
  -- the frame behind: all but a and d
  have fin : ∀ G', Fd d G0 G' → ∀ x o, x ≠ a → G x = some o → G' x = some o := fun G' f x o n e => f x o (gne_none e hd) (f0 x o n e)
  have hlim : Lim ((M : Int) + 1) := ⟨by omega, by omega⟩
  refine ⟨_, ws0.ob, _, wf_m, hlim, ?_⟩
  have eM : ((M : Int) + 1).toNat = M + 1 := by omega
  have rl : ∀ i, ((List.range i).flatMap (rowE t)).length ≤ 32 * i := flat_len (rowE t) 32 fun r => by rw [rowE_len]; omega
  refine ⟨fun i ρ G' => ∃ w2 w3 w4 w5 w6, ρ = [some (.ref a), some (taskD t rows st m), w2, w3, w4, w5, w6] ∧ WS C a d t M ((List.range i).flatMap (rowE t)) G' ∧ Fd d G0 G',
    ⟨none, none, none, none, none, rfl, ws0, .refl _ _⟩, fun _ _ _ _ _ => trivial, ?_, ?_⟩
  · rintro r dd ρ G1 ed ⟨w2, w3, w4, w5, w6, rfl, ws1, f1⟩
    obtain ⟨rfl, hr⟩ := rangeD_get ed
    have hr : r < M + 1 := by rw [← eM]; exact hr
    have er : (0 : Int) + (r : Nat) * 1 = (r : Int) := by omega
    rw [er]
    refine ⟨_, ws1.ob, _, wf_t, ⟨by omega, by omega⟩, fun j ρ G' => ∃ w3 w4 w5 w6, ρ = [some (.ref a), some (taskD t rows st m), some (.int r), w3, w4, w5, w6] ∧ WS C a d t M ((List.range r).flatMap (rowE t) ++ (List.range j).flatMap (rowP t r)) G' ∧ Fd d G0 G',
      ⟨_, _, _, _, rfl, by simpa using ws1, f1⟩, fun _ _ _ _ _ => trivial, ?_, ?_⟩
    · rintro p dd ρ G2 ed2 ⟨w3, w4, w5, w6, rfl, ws2, f2⟩
      obtain ⟨rfl, hp⟩ := rangeD_get ed2
      have hp : p < t := by simpa using hp
      have ep : (0 : Int) + (p : Nat) * 1 = (p : Int) := by omega
      rw [ep]
      refine init_place hT hA ws2 ?_ fun G3 ws3 f3 => ⟨_, _, _, _, rfl, ?_, f2.trans f3⟩
      · have := rl r
        have := rowP_len t r p
        rw [List.length_append]; omega
      · rw [fm_take, ← List.append_assoc]; exact ws3
    · rintro ρ G2 ⟨w3, w4, w5, w6, rfl, ws2, f2⟩
      rw [rangeD_len] at ws2
      refine ⟨_, _, _, _, _, rfl, ?_, f2⟩
      rw [fm_take]
      exact ws2
  · rintro ρ G1 ⟨w2, w3, w4, w5, w6, rfl, ws1, f1⟩
    rw [rangeD_len, show ((M : Int) + 1).toNat = M + 1 from eM] at ws1
    -- the knots
    have hrl := rl (M + 1)
    have ra : ∀ r, (rowAt rows r).length ≤ 8 ∧ ∀ e ∈ rowAt rows r, wishOk e := fun r => by
      obtain ⟨h1, h2, h3⟩ := (rowAt_get (r := r) hrows hl0).resolve_right (by omega)
      exact ⟨h3, h2⟩
    have kl : ∀ i, ((List.range i).flatMap (knotRow t rows)).length ≤ 16 * i := flat_len (knotRow t rows) 16 fun r => knotRow_len t rows r (ra r).1
    refine ⟨repD m rows, rfl, fun i ρ G' => ∃ w2 w3 w4 w5 w6, ρ = [some (.ref a), some (taskD t rows st m), w2, w3, w4, w5, w6] ∧ WS C a d t M ((List.range (M + 1)).flatMap (rowE t) ++ (List.range i).flatMap (knotRow t rows)) G' ∧ Fd d G0 G',
      ⟨_, _, _, _, _, rfl, by simpa using ws1, f1⟩, fun _ _ _ _ _ => trivial, ?_, ?_⟩
    · rintro r dd ρ G2 ed ⟨w2, w3, w4, w5, w6, rfl, ws2, f2⟩
      obtain ⟨x, rfl, ex⟩ := enumD_get ed
      have hr : r < M := by
        have := (List.getElem?_eq_some_iff.mp ex).1
        rwa [rep_len, hMM] at this
      have exr : x = .tup (rowAt rows r) := by
        rw [rep_get rows m r (by rw [hMM]; exact hr)] at ex
        have hlt : r % rows.length < rows.length := Nat.mod_lt _ hl0
        obtain ⟨row, h1, _⟩ := hrows _ _ ex
        unfold rowAt
        rw [ex, h1]
      subst exr
      have hkl := kl r
      refine ⟨rfl, _, ws2.ob, _, wf_t, hS ht ht2 (by omega) fun ps G3 hps s3 g3 => ⟨spotsD t r, rowAt rows r, g3, rfl, ?_⟩⟩
      have ws3 := ws2.same s3
      obtain ⟨kvs, gd, _⟩ := ws2.dc
      have npd : ps ≠ d := (gne_none gd hps).symm
      refine ⟨fun j ρ G' => ∃ w5 w6, ρ = [some (.ref a), some (taskD t rows st m), some (.tup (rowAt rows r)), w3, some (.int r), w5, w6] ∧ WS C a d t M (((List.range (M + 1)).flatMap (rowE t) ++ (List.range r).flatMap (knotRow t rows)) ++ ((zipD (spotsD t r) (rowAt rows r)).take j).flatMap (knotP t r)) G' ∧ Fd d G0 G' ∧ Fd d G3 G',
        ⟨_, _, rfl, by simpa using ws3, f2.trans (.same s3), .refl _ _⟩, fun j ρ G' ⟨_, _, _, _, _, f⟩ _ => ⟨f _ _ npd g3, trivial⟩, ?_, ?_⟩
      · rintro j dd ρ G4 ed4 ⟨w5, w6, rfl, ws4, f4, f34⟩
        obtain ⟨sD, w, rfl, e1, e2⟩ := zipD_get ed4
        unfold spotsD at e1
        rw [List.getElem?_map] at e1
        obtain ⟨s, _, rfl⟩ := Option.map_eq_some_iff.mp e1
        have hw := (ra r).2 w (List.mem_of_getElem? e2)
        refine ⟨rfl, ws4.ins wf_3, hK ws4 ?_ hw fun G5 ws5 f5 => ⟨_, _, rfl, ?_, f4.trans f5, f34.trans f5⟩⟩
        · have h1 : (((zipD (spotsD t r) (rowAt rows r)).take j).flatMap (knotP t r)).length ≤ 16 := by
            have := knotRow_len t rows r (ra r).1
            unfold knotRow at this
            refine Nat.le_trans ?_ this
            conv => rhs; rw [← List.take_append_drop j (zipD (spotsD t r) (rowAt rows r)), List.flatMap_append, List.length_append]
            omega
          rw [List.length_append, List.length_append]; omega
        · rw [take_flat _ ed4, ← List.append_assoc]; exact ws5
      · rintro ρ G4 ⟨w5, w6, rfl, ws4, f4, f34⟩
        rw [List.take_length] at ws4
        refine ⟨_, _, _, _, _, rfl, ?_, f4⟩
        rw [fm_take (knotRow t rows) r, ← List.append_assoc]; exact ws4
    · rintro ρ G2 ⟨w2, w3, w4, w5, w6, rfl, ws2, f2⟩
      rw [enumD_len, rep_len, hMM] at ws2
      have hkl := kl M
      have len2 : ((List.range (M + 1)).flatMap (rowE t) ++ (List.range M).flatMap (knotRow t rows)).length < 800000 := by rw [List.length_append]; omega
      -- the start, the end
      refine ⟨ws2.ins wf_4, (hL ws2 (by omega)).1 hst fun G3 ws3 f3 => ⟨ws3.ins wf_4, _, ws3.ob, _, wf_m, (hL ws3 ?_).2 ?_⟩⟩
      · have : (startE st).length ≤ 1 * st.length := flat_len (startP st) 1 (startP_len st) st.length
        rw [List.length_append]; omega
      · refine Br.f' (k d G3 ?_ (fin G3 (f2.trans f3)))
        unfold webL
        rw [hMM]; exact ws3
end
end K59
end
section
set_option Elab.async false
set_option linter.all false
set_option maxRecDepth 100000
set_option maxHeartbeats 4000000
namespace K59
open PySem PySem.Spec PyProof.Rows L2 TL
/-! ### the motif and the start are sound -/
def motifD (t : Nat) (rows : List D) : D := .tup [.str "motif", .int t, .tup rows]
theorem fm_true : ∀ l : List D, l.filterMap (fun _ => some (D.bl true)) = (List.replicate l.length true).map .bl
  | [] => rfl
  | _ :: l => by rw [List.filterMap_cons, fm_true l]; rfl
theorem all_rep : ∀ n, (List.replicate n true).all id = true
  | 0 => rfl
  | n + 1 => by rw [List.replicate_succ, List.all_cons, all_rep n]; rfl
def YesOk (s : Spd) (args : List D) : Prop := ∀ {G : Gp} {Q : KD}, (∀ G', GSame G G' → Q (.bl true) G') → s args G Q
theorem are_rows_ok {sS : Spd} (hS : SpotsOk sS) {t : Nat} {rows : List D} (ht : 2 ≤ t) (ht2 : t ≤ 16) (hrows : RowsOk t rows) (hl : rows.length ≤ 60) : YesOk (spB 4 2 (rd_are_rows_of sS)) [.int t, .tup rows] := by
  intro G Q k
  have e60 : decide ((60 : Int) < (rows.length : Int)) = false := decide_eq_false (by omega)
  refine ⟨rfl, Br.f' ?_⟩
  show Br (decide ((60 : Int) < (rows.length : Int))) _ _
  rw [e60]
  refine Br.f' ⟨rows, rfl, fun i ρ G' => ∃ w2 w3, ρ = [some (.int t), some (.tup rows), w2, w3] ∧ GSame G G', ⟨none, none, rfl, .refl _⟩, fun _ _ _ _ _ => trivial, ?_, ?_⟩
  · rintro r d ρ G1 ed ⟨w2, w3, rfl, s1⟩
    obtain ⟨x, rfl, ex⟩ := enumD_get ed
    have hr := (List.getElem?_eq_some_iff.mp ex).1
    obtain ⟨row, rfl, h1, _⟩ := hrows r x ex
    refine ⟨rfl, Br.f' ?_⟩
    refine hS ht ht2 (by omega) fun p G2 hp s2 g2 => ⟨_, g2, rfl, fun h => ?_, fun h => ⟨_, _, rfl, s1.trans s2⟩⟩
    have h : ¬ (row.length : Int) = ((spotsD t r).length : Int) := by
      have h : (!((row.length : Int) == ((spotsD t r).length : Int))) = true := h
      simpa using h
    exact absurd (by unfold spotsD; rw [List.length_map, h1]) h
  · rintro ρ G1 ⟨w2, w3, rfl, s1⟩
    exact k G1 s1
theorem is_wish_ok {sI : Spd} (hI : NumOk sI) {w : D} (h : w = .non ∨ w = .int 0 ∨ w = .int 1) {G : Gp} {Q : KD} (q : Q (.bl true) G) : spB 1 1 (rd_is_wish sI) [w] G Q := by
  rcases h with rfl | rfl | rfl
  · exact ⟨rfl, Br.t' q⟩
  · exact ⟨rfl, Br.f' (hI (fun a => by intro z; cases z) q)⟩
  · exact ⟨rfl, Br.f' (hI (fun a => by intro z; cases z) q)⟩
theorem knot_wish_ok {sW sI : Spd} (hI : NumOk sI) (hW : ∀ {w : D}, (w = .non ∨ w = .int 0 ∨ w = .int 1) → ∀ {G : Gp} {Q : KD}, Q (.bl true) G → sW [w] G Q) {w : D} (hw : wishOk w) : YesOk (spB 2 1 (rd_is_knot_wish sW sI)) [w] := by
  intro G Q k
  unfold wishOk at hw
  simp only [List.mem_cons, List.not_mem_nil, or_false] at hw
  have tupc : ∀ u v : Int, w = .tup [.int u, .int v] → (0 ≤ u ∧ u ≤ 1) → (0 ≤ v ∧ v ≤ 1) → D.among w [.tup [.int 0, .int 0], .tup [.int 0, .int 1], .tup [.int 1, .int 1]] = true → spB 2 1 (rd_is_knot_wish sW sI) [w] G Q := by
    rintro u v rfl hu hv hin
    refine ⟨rfl, Br.f' ⟨rfl, Br.t' ⟨[.int u, .int v], rfl, ?_⟩⟩⟩
    refine lc_pure (fun _ => some (.bl true)) ?_ ?_ ?_ ?_
    · trivial
    · show 2 < 1000000; decide
    · intro i d e G1 s1 K kk
      have hd : ∃ z : Int, d = .int z ∧ 0 ≤ z ∧ z ≤ 1 := by
        have := List.mem_of_getElem? e
        simp only [List.mem_cons, List.not_mem_nil, or_false] at this
        rcases this with h | h
        · exact ⟨_, h, hu⟩
        · exact ⟨_, h, hv⟩
      obtain ⟨z, rfl, z0, z1⟩ := hd
      refine ⟨fun _ => hI (fun a => by intro z; cases z) ?_, fun z => nomatch z⟩
      rw [isNum_int z0 z1]
      exact kk G1 (.refl _)
    · intro p G1 hp s1 g1
      refine ⟨[true, true], g1, Br.t' ⟨rfl, ?_⟩⟩
      show Q (.bl (D.among (.tup [.int u, .int v]) [.tup [.int 0, .int 0], .tup [.int 0, .int 1], .tup [.int 1, .int 1]])) G1
      rw [hin]
      exact k G1 s1
  rcases hw with rfl | rfl | rfl | rfl | rfl | rfl
  · exact ⟨rfl, Br.t' (hW (.inl rfl) (k G (.refl _)))⟩
  · exact ⟨rfl, Br.t' (hW (.inr (.inl rfl)) (k G (.refl _)))⟩
  · exact ⟨rfl, Br.t' (hW (.inr (.inr rfl)) (k G (.refl _)))⟩
  · exact tupc 0 0 rfl (by omega) (by omega) (by decide)
  · exact tupc 0 1 rfl (by omega) (by omega) (by decide)
  · exact tupc 1 1 rfl (by omega) (by omega) (by decide)
theorem rows_flat {t : Nat} : ∀ {rows : List D}, (∀ y ∈ rows, ∃ row, y = .tup row ∧ ∀ e ∈ row, wishOk e) → D.flats rows = true ∧ D.deps rows ≤ 3 := by
  have wf : ∀ e, wishOk e → e.flat = true ∧ e.dep ≤ 1 := by
    intro e he
    unfold wishOk at he
    simp only [List.mem_cons, List.not_mem_nil, or_false] at he
    rcases he with rfl | rfl | rfl | rfl | rfl | rfl <;> exact ⟨rfl, by decide⟩
  have rf : ∀ row : List D, (∀ e ∈ row, wishOk e) → D.flats row = true ∧ D.deps row ≤ 1 := by
    intro row
    induction row with
    | nil => intro _; exact ⟨rfl, Nat.zero_le _⟩
    | cons e row ih =>
      intro h
      have h1 := wf e (h e List.mem_cons_self)
      have h2 := ih fun x hx => h x (List.mem_cons_of_mem _ hx)
      refine ⟨?_, ?_⟩
      · show (e.flat && D.flats row) = true; rw [h1.1, h2.1]; rfl
      · show max e.dep (D.deps row) ≤ 1; exact Nat.max_le.mpr ⟨h1.2, h2.2⟩
  intro rows
  induction rows with
  | nil => intro _; exact ⟨rfl, Nat.zero_le _⟩
  | cons y rows ih =>
    intro h
    obtain ⟨row, rfl, hr⟩ := h y List.mem_cons_self
    have h1 := rf row hr
    have h2 := ih fun x hx => h x (List.mem_cons_of_mem _ hx)
    refine ⟨?_, ?_⟩
    · show (D.flats row && D.flats rows) = true; rw [h1.1, h2.1]; rfl
    · show max (D.deps row + 1) (D.deps rows) ≤ 3; exact Nat.max_le.mpr ⟨by omega, h2.2⟩
theorem rows_mem {t : Nat} {rows : List D} (h : RowsOk t rows) : ∀ y ∈ rows, ∃ row, y = .tup row ∧ (∀ e ∈ row, wishOk e) ∧ row.length ≤ (t + 1) / 2 := fun y hy => by
  obtain ⟨r, hr⟩ := List.getElem?_of_mem hy
  obtain ⟨row, h1, h2, h3⟩ := h r y hr
  exact ⟨row, h1, h3, by rw [h2, spots_len]; omega⟩
theorem is_motif_ok {sR sI sK : Spd} {t : Nat} {rows : List D} (ht : 2 ≤ t) (ht2 : t ≤ 16) (hrows : RowsOk t rows) (hl0 : 0 < rows.length) (hl : rows.length ≤ 60) (hev : rows.length % 2 = 0)
    (hR : YesOk sR [.int t, .tup rows]) (hI : NumOk sI) (hK : ∀ {w : D}, wishOk w → YesOk sK [w]) : YesOk (spB 3 1 (rd_is_motif sR sI sK)) [motifD t rows] := by
  intro G Q k
  have rm := rows_mem hrows
  have rf := rows_flat (t := t) (rows := rows) fun y hy => let ⟨row, a, b, _⟩ := rm y hy; ⟨row, a, b⟩
  refine ⟨rfl, Br.f' ⟨rfl, Br.f' ⟨(by unfold okEq; decide +kernel), ?_⟩⟩⟩
  show Br (!D.eqv (.str "motif") (.str "motif")) _ _
  rw [show (!D.eqv (.str "motif") (.str "motif")) = false by decide +kernel]
  refine Br.f' (hI (fun a => by intro z; cases z) ?_)
  show Br (!isNum (.int (t : Int)) 2 16) _ _
  rw [isNum_int (by omega) (by omega)]
  refine Br.f' (hR fun G1 s1 => Br.f' ?_)
  -- no empty tuple, an even number of rows
  have ok0 : okEq (.tup rows) (.tup []) := by unfold okEq; simp [D.flat, D.flats, D.dep, D.deps, rf.1]; omega
  have e0 : D.eqv (.tup rows) (.tup []) = false := by
    cases rows with
    | nil => simp at hl0
    | cons => rfl
  refine ⟨(by show 0 ≤ 1000; decide), ok0, ?_⟩
  show Br (D.eqv (.tup rows) (.tup [])) _ _
  rw [e0]
  refine Br.f' ⟨⟨by decide, by decide⟩, .inl (.inr ⟨by decide, by decide⟩), rfl, ?_⟩
  have e2 : (!((rows.length : Int) / 2 * 2 == (rows.length : Int))) = false := by
    rw [show (((rows.length : Int) / 2 * 2 == (rows.length : Int)) = true) from beq0.mpr (by omega)]; rfl
  show Br (!((rows.length : Int) / 2 * 2 == (rows.length : Int))) _ _
  rw [e2]
  refine Br.f' ⟨rows, rfl, fun p hp => ?_⟩
  refine ⟨fun i acc G => ∃ n, n ≤ 9 * i ∧ acc = List.replicate n (.bl true) ∧ G p = some (.lst acc) ∧ GSame G1 G, ⟨0, Nat.zero_le _, rfl, gup_same, .new hp⟩, fun _ _ _ _ _ => trivial, ?_, ?_⟩
  · rintro i d acc G2 ed ⟨n, hn, rfl, g2, s2⟩
    have hi := (List.getElem?_eq_some_iff.mp ed).1
    obtain ⟨row, rfl, hw, hrl⟩ := rm d (List.mem_of_getElem? ed)
    refine ⟨fun _ => ⟨row, rfl, fun j acc G => ∃ n, n ≤ 9 * i + j ∧ acc = List.replicate n (.bl true) ∧ G p = some (.lst acc) ∧ GSame G1 G, ⟨n, by omega, rfl, g2, s2⟩, fun _ _ _ _ _ => trivial, ?_, ?_⟩, fun z => nomatch z⟩
    · rintro j e acc G3 ee ⟨n', hn', rfl, g3, s3⟩
      have hj := (List.getElem?_eq_some_iff.mp ee).1
      refine ⟨fun _ => hK (hw e (List.mem_of_getElem? ee)) fun G4 s4 => ⟨s4 _ _ g3, ?_, n' + 1, by omega, ?_, gup_same, ?_⟩, fun z => nomatch z⟩
      · rw [List.length_replicate, sizeLine_eq]; omega
      · rw [List.replicate_succ']
      · intro x o ex
        rw [gup_ne (gne_none ex hp)]
        exact s4 _ _ (s3 _ _ ex)
    · rintro acc G3 ⟨n', hn', rfl, g3, s3⟩
      exact ⟨n', by omega, rfl, g3, s3⟩
  · rintro acc G2 ⟨n, hn, rfl, g2, s2⟩
    refine ⟨List.replicate n true, by rw [g2, List.map_replicate], ?_⟩
    show Q (.bl ((List.replicate n true).all id)) G2
    rw [all_rep]
    exact k G2 (s1.trans s2)
def NonOk (s : Spd) (args : List D) : Prop := ∀ {G : Gp} {Q : KD}, (∀ G', GSame G G' → Q .non G') → s args G Q
theorem need_motif_ok {sM : Spd} {x : D} (h : YesOk sM [x]) : NonOk (spB 1 1 (rd_need_motif sM)) [x] := by
  intro G Q k
  exact ⟨rfl, h fun G' s => Br.f' (k G' s)⟩
theorem need_start_ok {sI : Spd} (hI : NumOk sI) {t : Nat} {rows : List D} {st : List Int} (hst : st.length = t) (ht : t ≤ 16) (h01 : ∀ z ∈ st, z = 0 ∨ z = 1) : NonOk (spB 3 2 (rd_need_start sI)) [motifD t rows, .tup (st.map .int)] := by
  intro G Q k
  refine ⟨rfl, Br.f' ⟨rfl, ?_⟩⟩
  have e : (!(((st.map D.int).length : Int) == (t : Int))) = false := by
    rw [show ((((st.map D.int).length : Int) == (t : Int)) = true) from beq0.mpr (by rw [List.length_map, hst])]; rfl
  show Br (!(((st.map D.int).length : Int) == (t : Int))) _ _
  rw [e]
  refine Br.f' ⟨st.map .int, rfl, ?_⟩
  refine lc_pure (fun _ => some (.bl true)) ?_ ?_ ?_ ?_
  · trivial
  · rw [List.length_map]; omega
  · intro i d e G1 s1 K kk
    obtain ⟨z, rfl, ez⟩ := ints_get e
    have := h01 z (List.mem_of_getElem? ez)
    refine ⟨fun _ => hI (fun a => by intro z; cases z) ?_, fun z => nomatch z⟩
    rw [isNum_int (by omega) (by omega)]
    exact kk G1 (.refl _)
  · intro p G1 hp s1 g1
    rw [fm_true] at g1
    refine ⟨_, g1, ?_⟩
    show Br (!((List.replicate _ true).all id)) _ _
    rw [all_rep]
    exact Br.f' (k G1 s1)
end K59
end
section
set_option Elab.async false
set_option linter.all false
set_option maxRecDepth 100000
set_option maxHeartbeats 4000000
namespace K59
open PySem PySem.Spec PyProof.Rows L2 TL
/-! ### the form of a wish; brought near -/
def formB (t g many : Nat) (w : Wsh) : Prop := (w.x1 ≤ t ∧ w.x0 ≤ many * g) ∧ (w.y1 ≤ t ∧ w.y0 ≤ many * g)
def FormOk (s : Spd) : Prop := ∀ {t many : Nat} {rows : List D} {w : Wsh} {G : Gp} {Q : KD}, rows.length ≤ 60 → many ≤ 10000 → Small w → (∀ b G', GSame G G' → (b = true ↔ formB t rows.length many w) → Q (.bl b) G') → s [motifD t rows, .int many, wD w] G Q
theorem cut2 (a b c : D) : TL.cutD [a, b, c] none (some 2) = [a, b] := rfl
theorem form_ok {sI : Spd} (hI : NumOk sI) : FormOk (spB 4 3 (rd_is_wish_form sI)) := by
  intro t many rows w G Q hl hm hw k
  obtain ⟨b1, b2, b3, b4, b5, b6⟩ := hw
  refine ⟨rfl, Br.f' ⟨rfl, Br.f' (hI (fun a => by intro z; cases z) ?_)⟩⟩
  show Br (!isNum (.int w.n) (-99) 99) _ _
  rw [isNum_int b5 b6]
  refine Br.f' ?_
  have hcm : CM (many : Int) (rows.length : Int) := .inl (.inl ⟨by omega, by omega⟩)
  -- for height in thing[:2]
  refine ⟨[pt w.x0 w.x1, pt w.y0 w.y1], rfl, fun i ρ G' => (∃ w3, ρ = [some (motifD t rows), some (.int many), some (wD w), w3]) ∧ GSame G G' ∧ (0 < i → w.x1 ≤ t ∧ w.x0 ≤ many * rows.length) ∧ (1 < i → w.y1 ≤ t ∧ w.y0 ≤ many * rows.length),
    ⟨⟨none, rfl⟩, .refl _, fun h => absurd h (by decide), fun h => absurd h (by decide)⟩, fun _ _ _ _ _ => trivial, ?_, ?_⟩
  · rintro i d ρ G1 ed ⟨⟨w3, rfl⟩, s1, h0, h1⟩
    have hd : ∃ r c : Nat, d = pt r c ∧ (formB t rows.length many w → c ≤ t ∧ r ≤ many * rows.length) ∧ ((c ≤ t ∧ r ≤ many * rows.length) → (0 < i + 1 → w.x1 ≤ t ∧ w.x0 ≤ many * rows.length) ∧ (1 < i + 1 → w.y1 ≤ t ∧ w.y0 ≤ many * rows.length)) := by
      match i, ed with
      | 0, ed => cases ed; exact ⟨w.x0, w.x1, rfl, fun h => h.1, fun h => ⟨fun _ => h, fun z => absurd z (by decide)⟩⟩
      | 1, ed => cases ed; exact ⟨w.y0, w.y1, rfl, fun h => h.2, fun h => ⟨fun _ => h0 (by decide), fun _ => h⟩⟩
      | j + 2, ed => simp at ed
    obtain ⟨r, c, rfl, hf, hb⟩ := hd
    refine Br.f' ⟨rfl, Br.f' (hI (fun a => by intro z; cases z) ?_)⟩
    refine ⟨fun h => ?_, fun h => ?_⟩
    · -- the cut is too great
      refine k false G1 s1 ⟨fun z => (nomatch z), fun z => ?_⟩
      have := hf z
      have h : (!isNum (.int (c : Int)) 0 (t : Int)) = true := h
      rw [isNum_int (by omega) (by omega)] at h; cases h
    · have hc : c ≤ t := by
        have h : (!isNum (.int (c : Int)) 0 (t : Int)) = false := h
        have h : isNum (.int (c : Int)) 0 (t : Int) = true := by cases e : isNum (.int (c : Int)) 0 (t : Int) <;> simp_all
        have := isNum_iff.mp h; omega
      refine ⟨hcm, hI (fun a => by intro z; cases z) ⟨fun h => ?_, fun h => ?_⟩⟩
      · refine k false G1 s1 ⟨fun z => (nomatch z), fun z => ?_⟩
        have := (hf z).2
        have h : (!isNum (.int (r : Int)) 0 ((many : Int) * (rows.length : Int))) = true := h
        rw [isNum_int (by omega) (by rw [← Int.natCast_mul]; omega)] at h; cases h
      · have hr : r ≤ many * rows.length := by
          have h : (!isNum (.int (r : Int)) 0 ((many : Int) * (rows.length : Int))) = false := h
          have h : isNum (.int (r : Int)) 0 ((many : Int) * (rows.length : Int)) = true := by cases e : isNum (.int (r : Int)) 0 ((many : Int) * (rows.length : Int)) <;> simp_all
          have := isNum_iff.mp h
          rw [← Int.natCast_mul] at this; omega
        have := hb ⟨hc, hr⟩
        exact ⟨⟨_, rfl⟩, s1, this.1, this.2⟩
  · rintro ρ G1 ⟨⟨w3, rfl⟩, s1, h0, h1⟩
    exact k true G1 s1 ⟨fun _ => ⟨h0 (show 0 < 2 by decide), h1 (show 1 < 2 by decide)⟩, fun _ => rfl⟩
/-- by how much a wish is moved -/
def byD (g many : Int) (far : Int) : Int := if many ≤ 3 ∨ far ≤ 2 * g then 0 else if far > many * g - g then many * g - 3 * g else (far - 1) / g * g - g
def shD (b r : Int) : Int := if r > 0 then r - b else r
def nearW (g many : Nat) (w : Wsh) : D := .tup [pt (shD (byD g many (max w.x0 w.y0)) w.x0) w.x1, pt (shD (byD g many (max w.x0 w.y0)) w.y0) w.y1, .int w.n]
def NearOk (s : Spd) : Prop := ∀ {t many : Nat} {rows : List D} {w : Wsh} {G : Gp} {Q : KD}, 0 < rows.length → rows.length ≤ 60 → many ≤ 10000 → Small w → (∀ G', GSame G G' → Q (nearW rows.length many w) G') → s [motifD t rows, .int many, wD w] G Q
theorem sh0 (r : Int) : shD 0 r = r := by unfold shD; split <;> omega
theorem near_ok : NearOk sp_brought_near := by
  intro t many rows w G Q hl0 hl hm hw k
  obtain ⟨b1, b2, b3, b4, b5, b6⟩ := hw
  have cm1 : CM 2 (rows.length : Int) := .inl (.inl ⟨by decide, by decide⟩)
  have cm2 : CM (many : Int) (rows.length : Int) := .inl (.inl ⟨by omega, by omega⟩)
  have cm3 : CM 3 (rows.length : Int) := .inl (.inl ⟨by decide, by decide⟩)
  have hdv : ∀ i : Int, CDivW i (rows.length : Int) := fun i => ⟨by omega, log_small (by omega)⟩
  have cm4 : ∀ i : Int, CM i (rows.length : Int) := fun i => .inl (.inr ⟨by omega, by omega⟩)
  -- the end, with the number by which it is moved
  have fin : ∀ by' : Int, by' = byD rows.length many (max (w.x0 : Int) w.y0) →
      rd_brought_near_2 (endsD Q) [some (motifD t rows), some (.int many), some (wD w), some (.int rows.length), some (.int (max (w.x0 : Int) w.y0)), some (.int by'), none, none, none, none] G := by
    rintro by' hby
    refine ⟨[pt w.x0 w.x1, pt w.y0 w.y1], rfl, ?_⟩
    refine lc_pure (fun d => match d with | .tup [.int r, c] => some (.tup [.int (shD by' r), c]) | _ => none) ?_ ?_ ?_ ?_
    · trivial
    · show 2 < 1000000; decide
    · intro i d e G1 s1 K kk
      have hd : ∃ r c : Nat, d = pt r c := by
        have := List.mem_of_getElem? e
        simp only [List.mem_cons, List.not_mem_nil, or_false] at this
        rcases this with h | h
        · exact ⟨_, _, h⟩
        · exact ⟨_, _, h⟩
      obtain ⟨r, c, rfl⟩ := hd
      have kk : ∀ G', GSame G1 G' → K (some (.tup [.int (shD by' r), .int c])) G' := kk
      refine ⟨rfl, fun _ => ⟨fun h => ⟨le2, ?_⟩, fun h => ⟨le2, ?_⟩⟩, fun z => nomatch z⟩
      · have h : (0 : Int) < (r : Int) := of_decide_eq_true h
        have := kk G1 (.refl _)
        rw [show shD by' r = (r : Int) - by' from if_pos h] at this; exact this
      · have h : ¬ (0 : Int) < (r : Int) := of_decide_eq_false h
        have := kk G1 (.refl _)
        rw [show shD by' r = (r : Int) from if_neg h] at this; exact this
    · intro p G1 hp s1 g1
      refine ⟨_, g1, rfl, le3, ?_⟩
      have := k G1 s1
      unfold nearW at this
      rw [← hby] at this; exact this
  refine ⟨rfl, le2, fun h1 => ?_, fun h1 => ?_⟩
  · refine Br.t' ?_
    have h1 : (many : Int) ≤ 3 := of_decide_eq_true h1
    have : nearW rows.length many w = wD w := by
      unfold nearW
      rw [show byD rows.length many (max w.x0 w.y0) = 0 from if_pos (.inl h1), sh0, sh0]; rfl
    rw [this] at k; exact k G (.refl _)
  · have h1 : ¬ (many : Int) ≤ 3 := of_decide_eq_false h1
    refine ⟨cm1, fun h2 => ?_, fun h2 => ?_⟩
    · have h2 : max (w.x0 : Int) w.y0 ≤ 2 * (rows.length : Int) := of_decide_eq_true h2
      have : nearW rows.length many w = wD w := by
        unfold nearW
        rw [show byD rows.length many (max w.x0 w.y0) = 0 from if_pos (.inr h2), sh0, sh0]; rfl
      rw [this] at k; exact k G (.refl _)
    · have h2 : ¬ max (w.x0 : Int) w.y0 ≤ 2 * (rows.length : Int) := of_decide_eq_false h2
      refine ⟨hdv _, cm4 _, cm2, fun h3 => ⟨cm2, cm3, ?_⟩, fun h3 => ?_⟩
      · have h3 : (many : Int) * rows.length - rows.length < max (w.x0 : Int) w.y0 := of_decide_eq_true h3
        refine fin _ ?_
        unfold byD
        rw [if_neg (fun z => z.elim h1 h2), if_pos h3]
      · have h3 : ¬ (many : Int) * rows.length - rows.length < max (w.x0 : Int) w.y0 := of_decide_eq_false h3
        refine fin _ ?_
        unfold byD
        rw [if_neg (fun z => z.elim h1 h2), if_neg h3]
end K59
end
section
set_option Elab.async false
set_option linter.all false
set_option maxRecDepth 100000
set_option maxHeartbeats 4000000
namespace K59
open PySem PySem.Spec PyProof.Rows L2 TL
def TaskOk (s : Spd) : Prop := ∀ {t m : Nat} {rows : List D} {st : List Int} {G : Gp} {Q : KD}, 0 < rows.length → rows.length ≤ 60 → 1 ≤ m → m ≤ 3 → Q (taskD t rows st m) G → s [motifD t rows, .int m, .tup (st.map .int)] G Q
theorem task_ok : TaskOk sp_task_of_motifs := by
  intro t m rows st G Q h1 h2 h3 h4 q
  exact ⟨rfl, (fun e => by rw [e] at h1; exact absurd h1 (by decide)), by omega, by omega, by omega, (by show 6 ≤ 1000; decide), q⟩
/-- the numbers of the wish as it is brought near -/
def NearIs (g many : Nat) (L : List D) (w : Wsh) : Prop :=
  pt (shD (byD g many (max w.x0 w.y0)) w.x0) w.x1 ≠ pt (shD (byD g many (max w.x0 w.y0)) w.y0) w.y1 ∧ w.n ∈ hits (pt (shD (byD g many (max w.x0 w.y0)) w.x0) w.x1) (pt (shD (byD g many (max w.x0 w.y0)) w.y0) w.y1) L ∧
    ∀ n ∈ hits (pt (shD (byD g many (max w.x0 w.y0)) w.x0) w.x1) (pt (shD (byD g many (max w.x0 w.y0)) w.y0) w.y1) L, w.n ≤ n
def NeverP (t : Nat) (rows : List D) (st : List Int) (many : Nat) (l : List Wsh) : Prop :=
  (1 ≤ many ∧ many ≤ 9999) ∧ l ≠ [] ∧ (∀ w ∈ l, formB t rows.length many w) ∧ (∀ w ∈ l, NearIs rows.length many (webL t rows st (min many 3)) w) ∧ Chain l ∧ (l.map fun w : Wsh => w.n).sum < 0
instance (t g many : Nat) (w : Wsh) : Decidable (formB t g many w) := by unfold formB; infer_instance
def nat? : D → Nat
  | .int i => i.toNat
  | _ => 0
def wOf : D → Wsh
  | .tup [.tup [a, b], .tup [c, d], .int n] => ⟨nat? a, nat? b, nat? c, nat? d, n⟩
  | _ => ⟨0, 0, 0, 0, 0⟩
theorem wOf_wD (w : Wsh) : wOf (wD w) = w := rfl
theorem fm_w {β : Type} (f : Wsh → D) : ∀ l : List Wsh, (l.map wD).filterMap (fun d => some (f (wOf d))) = l.map f
  | [] => rfl
  | w :: l => by rw [List.map_cons, List.filterMap_cons, fm_w (β := β) f l]; rfl
theorem all_map {α : Type} (p : α → Bool) : ∀ l : List α, (l.map p).all id = l.all p
  | [] => rfl
  | a :: l => by rw [List.map_cons, List.all_cons, List.all_cons, all_map p l]; rfl
theorem map_bl {α : Type} (p : α → Bool) (l : List α) : l.map (fun w => D.bl (p w)) = (l.map p).map .bl := by rw [List.map_map]; rfl
def chainB (p : Wsh × Wsh) : Bool := decide (p.1.y0 = p.2.x0 ∧ p.1.y1 = p.2.x1)
def chF : D → Option D
  | .tup [a, b] => some (.bl (chainB (wOf a, wOf b)))
  | _ => none
theorem zip_ch : ∀ (l m : List Wsh), (zipD (l.map wD) (m.map wD)).filterMap chF = ((l.zip m).map chainB).map .bl
  | [], _ => rfl
  | _ :: _, [] => rfl
  | a :: l, b :: m => by
    show ((D.tup [wD a, wD b]) :: zipD (l.map wD) (m.map wD)).filterMap chF = (((a, b) :: l.zip m).map chainB).map .bl
    rw [List.filterMap_cons, zip_ch l m]; rfl
theorem chain_all (l : List Wsh) : (l.zip (rot l)).all chainB = true ↔ Chain l := by
  rw [List.all_eq_true]
  constructor
  · intro h p hp; exact of_decide_eq_true (h p hp)
  · intro h p hp; exact decide_eq_true (h p hp)
def NeverOk (C : Addr) (s : Spd) : Prop := ∀ {t many : Nat} {rows : List D} {st : List Int} {l : List Wsh} {G : Gp} {Q : KD}, 2 ≤ t → t ≤ 16 → RowsOk t rows → 0 < rows.length → rows.length ≤ 60 → st.length ≤ 16 → many ≤ 10000 → l.length ≤ 1000 → (∀ w ∈ l, Small w) →
  (∀ b G', GSame G G' → (b = true ↔ NeverP t rows st many l) → Q (.bl b) G') → s [motifD t rows, .tup (st.map .int), .tup [.str "never", .int many, lineD l]] G Q
section
variable {C : Addr} {sI sF sN sT sB : Spd} (hI : NumOk sI) (hF : FormOk sF) (hN : InitOk C sN) (hT : TaskOk sT) (hB : NearOk sB)
include hI hF hN hT hB in
theorem never_ok : NeverOk C (spB 7 3 (rd_is_never C sI sF sN sT sB)) := by
  intro t many rows st l G Q ht ht2 hrows hl0 hl hst hmany hll hsm k
  refine ⟨rfl, hI (fun a => by intro z; cases z) ⟨fun h1 => ?_, fun h1 => Br.f' ⟨(by show 0 ≤ 1000; decide), line_ok l, fun h2 => ?_, fun h2 => ?_⟩⟩⟩
  · refine Br.t' (k false G (.refl _) ⟨fun z => (nomatch z), fun z => ?_⟩)
    have h1 : (!isNum (.int (many : Int)) 1 9999) = true := h1
    rw [isNum_int (by have := z.1.1; omega) (by have := z.1.2; omega)] at h1; cases h1
  · refine k false G (.refl _) ⟨fun z => (nomatch z), fun z => ?_⟩
    have h2 : l.isEmpty = true := by rw [← line_nil]; exact h2
    exact absurd (List.isEmpty_iff.mp h2) z.2.1
  have hm : 1 ≤ many ∧ many ≤ 9999 := by
    have h1 : (!isNum (.int (many : Int)) 1 9999) = false := h1
    have : isNum (.int (many : Int)) 1 9999 = true := by cases e : isNum (.int (many : Int)) 1 9999 <;> simp_all
    have := isNum_iff.mp this; omega
  have hne : l ≠ [] := by
    intro e; subst e
    exact nomatch (show true = false from h2)
  -- the form of each wish
  refine ⟨l.map wD, rfl, ?_⟩
  refine lc_pure (fun d => some (.bl (decide (formB t rows.length many (wOf d))))) ?_ ?_ ?_ ?_
  · trivial
  · rw [List.length_map]; omega
  · intro i d e G1 s1 K kk
    obtain ⟨w, rfl, ew⟩ := line_get e
    refine ⟨fun _ => hF hl (by omega) (hsm w (List.mem_of_getElem? ew)) fun b G2 s2 hb => ?_, fun z => nomatch z⟩
    have := kk G2 s2
    rw [wOf_wD, show decide (formB t rows.length many w) = b by
      cases b with
      | true => exact decide_eq_true (hb.mp rfl)
      | false => exact decide_eq_false fun z => by have := hb.mpr z; cases this] at this
    exact this
  intro p1 G1 hp1 s1 g1
  rw [fm_w (β := Nat) (fun w => D.bl (decide (formB t rows.length many w))), map_bl] at g1
  refine ⟨_, g1, fun h3 => ?_, fun h3 => ?_⟩
  · refine k false G1 s1 ⟨fun z => (nomatch z), fun z => ?_⟩
    have h3 : (!((l.map fun w => decide (formB t rows.length many w)).all id)) = true := h3
    rw [all_map, show l.all (fun w => decide (formB t rows.length many w)) = true from List.all_eq_true.mpr fun w hw => decide_eq_true (z.2.2.1 w hw)] at h3
    cases h3
  have hform : ∀ w ∈ l, formB t rows.length many w := by
    have h3 : (!((l.map fun w => decide (formB t rows.length many w)).all id)) = false := h3
    rw [all_map] at h3
    have h3 : l.all (fun w => decide (formB t rows.length many w)) = true := by cases e : l.all (fun w => decide (formB t rows.length many w)) <;> simp_all
    intro w hw
    exact of_decide_eq_true (List.all_eq_true.mp h3 w hw)
  -- the web of at most three motifs
  have em : (min (many : Int) 3) = ((min many 3 : Nat) : Int) := by omega
  show sT [motifD t rows, .int (min (many : Int) 3), .tup (st.map .int)] G1 _
  rw [em]
  refine hT hl0 hl (by omega) (by omega) fun pw hpw => ?_
  refine hN ht ht2 hrows hl0 hl (by omega) hst gup_same fun dd G2 ws f2 => ⟨rfl, _, ws.ob, _, wf_d, ?_⟩
  obtain ⟨kvs, gd, rep⟩ := ws.dc
  have s2 : GSame G1 G2 := fun x o e => f2 x o (gne_none e hpw) (by rw [gup_ne (gne_none e hpw)]; exact e)
  clear f2 ws
  -- brought near
  refine ⟨l.map wD, rfl, ?_⟩
  refine lc_pure (fun d => some (nearW rows.length many (wOf d))) ?_ ?_ ?_ ?_
  · trivial
  · rw [List.length_map]; omega
  · intro i d e G3 s3 K kk
    obtain ⟨w, rfl, ew⟩ := line_get e
    exact ⟨fun _ => hB hl0 hl (by omega) (hsm w (List.mem_of_getElem? ew)) fun G4 s4 => kk G4 s4, fun z => nomatch z⟩
  intro p3 G3 hp3 s3 g3
  rw [fm_w (β := Nat) (fun w => nearW rows.length many w)] at g3
  have gd3 := s3 _ _ gd
  refine ⟨_, g3, fun i ρ G' => (∃ w4, ρ = [some (motifD t rows), some (.tup (st.map .int)), some (.tup [.str "never", .int many, lineD l]), some (.ref dd), w4, none, none]) ∧ GSame G3 G' ∧ ∀ (j : Nat) (w : Wsh), j < i → l[j]? = some w → NearIs rows.length many (webL t rows st (min many 3)) w,
    ⟨⟨none, rfl⟩, .refl _, fun j w hj => absurd hj (Nat.not_lt_zero j)⟩, fun i ρ G' h _ => ⟨h.2.1 _ _ g3, trivial⟩, ?_, ?_⟩
  · rintro i d ρ G4 ed ⟨⟨w4, rfl⟩, s4, hj⟩
    rw [List.getElem?_map] at ed
    obtain ⟨w, ew, rfl⟩ := Option.map_eq_some_iff.mp ed
    have hw := List.mem_of_getElem? ew
    have gd4 := s4 _ _ gd3
    have sall : GSame G G4 := ((s1.trans s2).trans s3).trans s4
    have q := rep.at_ (shD (byD rows.length many (max w.x0 w.y0)) w.x0) w.x1 (shD (byD rows.length many (max w.x0 w.y0)) w.y0) w.y1
    refine ⟨_, gd4, rfl, fun h => ?_, fun h => ?_⟩
    · -- not told
      have h : (!(dget kvs (key (pt (shD (byD rows.length many (max w.x0 w.y0)) w.x0) w.x1) (pt (shD (byD rows.length many (max w.x0 w.y0)) w.y0) w.y1))).isSome) = true := h
      refine Br.t' (k false G4 sall ⟨fun z => (nomatch z), fun z => ?_⟩)
      have zn := z.2.2.2.1 w hw
      cases e : dget kvs (key (pt (shD (byD rows.length many (max w.x0 w.y0)) w.x0) w.x1) (pt (shD (byD rows.length many (max w.x0 w.y0)) w.y0) w.y1)) with
      | some v => rw [e] at h; cases h
      | none =>
        rw [e] at q
        rcases q with q | q
        · exact absurd q zn.1
        · exact absurd zn.2.1 (q _)
    · have h : (!(dget kvs (key (pt (shD (byD rows.length many (max w.x0 w.y0)) w.x0) w.x1) (pt (shD (byD rows.length many (max w.x0 w.y0)) w.y0) w.y1))).isSome) = false := h
      cases e : dget kvs (key (pt (shD (byD rows.length many (max w.x0 w.y0)) w.x0) w.x1) (pt (shD (byD rows.length many (max w.x0 w.y0)) w.y0) w.y1)) with
      | none => rw [e] at h; cases h
      | some v =>
        rw [e] at q
        obtain ⟨m, rfl, q1, q2, q3⟩ := q
        refine ⟨_, gd4, rfl, _, e, rfl, fun h4 => ?_, fun h4 => ?_⟩
        · have h4 : ¬ m = w.n := by
            have h4 : (!(m == w.n)) = true := h4
            simpa using h4
          refine k false G4 sall ⟨fun z => (nomatch z), fun z => ?_⟩
          have zn := z.2.2.2.1 w hw
          have := q3 _ zn.2.1
          have := zn.2.2 _ q2
          omega
        · have h4 : m = w.n := by
            have h4 : (!(m == w.n)) = false := h4
            simpa using h4
          subst h4
          refine ⟨⟨_, rfl⟩, s4, fun j w' hj' e' => ?_⟩
          by_cases z : j < i
          · exact hj j w' z e'
          · have : j = i := by omega
            subst this
            rw [ew] at e'; cases e'
            exact ⟨q1, q2, q3⟩
  · rintro ρ G4 ⟨⟨w4, rfl⟩, s4, hj⟩
    have hnear : ∀ w ∈ l, NearIs rows.length many (webL t rows st (min many 3)) w := fun w hw => by
      obtain ⟨j, e⟩ := List.getElem?_of_mem hw
      exact hj j w (by rw [List.length_map]; exact (List.getElem?_eq_some_iff.mp e).1) e
    have sall : GSame G G4 := ((s1.trans s2).trans s3).trans s4
    -- one after the other
    refine ⟨(by
      show (TL.cutD (l.map wD) (some 1) none).length + (TL.cutD (l.map wD) none (some 1)).length ≤ sizeLine
      rw [← List.length_append, ← rot_map, List.length_map, sizeLine_eq]
      unfold rot; rw [List.length_append, List.length_drop, List.length_take]; omega), _, _, rfl, rfl, ?_⟩
    rw [← rot_map]
    refine lc_pure chF ?_ ?_ ?_ ?_
    · trivial
    · rw [zipD_len, List.length_map]; omega
    · intro i d ed G5 s5 K kk
      obtain ⟨a, b, rfl, _⟩ := zip_get ed
      have := kk G5 (.refl _)
      refine ⟨rfl, fun _ => ⟨rfl, ?_⟩, fun z => nomatch z⟩
      have e : D.eqv (pt a.y0 a.y1) (pt b.x0 b.x1) = chainB (a, b) := by
        rw [D.eqv_dec _ _ rfl rfl]
        unfold chainB
        exact decide_eq_decide.mpr pt_inj
      show K (some (.bl (D.eqv (pt a.y0 a.y1) (pt b.x0 b.x1)))) G5
      rw [e]; exact this
    · intro p5 G5 hp5 s5 g5
      rw [zip_ch] at g5
      refine ⟨_, g5, fun h => ?_, fun h => ?_⟩
      · refine k false G5 (sall.trans s5) ⟨fun z => (nomatch z), fun z => ?_⟩
        have h : (!(((l.zip (rot l)).map chainB).all id)) = true := h
        rw [all_map, (chain_all l).mpr z.2.2.2.2.1] at h; cases h
      · have hc : Chain l := by
          have h : (!(((l.zip (rot l)).map chainB).all id)) = false := h
          rw [all_map] at h
          refine (chain_all l).mp ?_
          cases e : (l.zip (rot l)).all chainB <;> simp_all
        refine ⟨l.map wD, rfl, ?_⟩
        refine lc_pure nF ?_ ?_ ?_ ?_
        · trivial
        · rw [List.length_map]; omega
        · intro i d ed G6 s6 K kk
          obtain ⟨w, rfl, _⟩ := line_get ed
          exact ⟨fun _ => kk G6 (.refl _), fun z => nomatch z⟩
        · intro p6 G6 hp6 s6 g6
          rw [map_fm (f := nF) (g := fun w => w.n) fun _ => rfl] at g6
          refine ⟨l.map (fun w : Wsh => w.n), g6, ?_⟩
          refine k _ _ ((sall.trans s5).trans s6) ⟨fun z => ?_, fun z => ?_⟩
          · exact ⟨hm, hne, hform, hnear, hc, of_decide_eq_true z⟩
          · exact decide_eq_true z.2.2.2.2.2
end
/-! the paper -/
def PaperOk (C : Addr) (s : Spd) : Prop := ∀ {t many : Nat} {rows : List D} {st : List Int} {l : List Wsh} {G : Gp} {Q : KD}, 2 ≤ t → t ≤ 16 → RowsOk t rows → 0 < rows.length → rows.length ≤ 60 → rows.length % 2 = 0 → st.length = t → (∀ z ∈ st, z = 0 ∨ z = 1) → many ≤ 10000 → l.length ≤ 1000 → (∀ w ∈ l, Small w) →
  (∀ b G', GSame G G' → (b = true ↔ NeverP t rows st many l) → Q (.bl b) G') → s [motifD t rows, .tup (st.map .int), .tup [.str "never", .int many, lineD l]] G Q
theorem paper_ok {C : Addr} {sM sS sN : Spd} (hM : ∀ {t : Nat} {rows : List D}, 2 ≤ t → t ≤ 16 → RowsOk t rows → 0 < rows.length → rows.length ≤ 60 → rows.length % 2 = 0 → NonOk sM [motifD t rows])
    (hS : ∀ {t : Nat} {rows : List D} {st : List Int}, st.length = t → t ≤ 16 → (∀ z ∈ st, z = 0 ∨ z = 1) → NonOk sS [motifD t rows, .tup (st.map .int)]) (hN : NeverOk C sN) : PaperOk C (spB 3 3 (rd_is_lasting_paper C sM sS sN)) := by
  intro t many rows st l G Q ht ht2 hrows hl0 hl hev hst h01 hmany hll hsm k
  refine ⟨rfl, hM ht ht2 hrows hl0 hl hev fun G1 s1 => hS hst ht2 h01 fun G2 s2 => Br.f' ⟨le2, rfl, Br.f' (Br.f' ⟨rfl, Br.t' ⟨(by unfold okEq; decide +kernel), ?_⟩⟩)⟩⟩
  show Br (D.eqv (.str "never") (.str "never")) _ _
  rw [show D.eqv (.str "never") (.str "never") = true by decide +kernel]
  exact Br.t' (hN ht ht2 hrows hl0 hl (by omega) hmany hll hsm fun b G3 s3 hb => k b G3 ((s1.trans s2).trans s3) hb)
end K59
end
section
set_option Elab.async false
set_option linter.all false
set_option maxRecDepth 100000
set_option maxHeartbeats 4000000
namespace K59
open PySem PySem.Spec PyProof.Rows L2 TL
/-! ### which numbers are told of two nodes -/
def nodeR (r c t : Nat) : Nat := if c = 0 ∨ c = t ∨ r = 0 then 0 else if (r + c) % 2 = 0 then r else r - 1
theorem node_nat (r c t : Nat) : nodeD (r : Int) (c : Int) (t : Int) = pt (nodeR r c t) c := by
  unfold nodeR
  by_cases h : c = 0 ∨ c = t ∨ r = 0
  · rw [if_pos h, node_pole (by omega)]; rfl
  · rw [if_neg h]
    by_cases e : (r + c) % 2 = 0
    · rw [if_pos e, node_in (by omega) (by omega)]; rfl
    · rw [if_neg e, node_up (by omega) (by omega)]
      show D.tup [.int ((r : Int) - 1), .int c] = D.tup [.int ((r - 1 : Nat) : Int), .int c]
      rw [show ((r - 1 : Nat) : Int) = (r : Int) - 1 by omega]
theorem ptn_inj {a b c d : Nat} : (pt (a : Int) (b : Int) = pt (c : Int) (d : Int)) ↔ a = c ∧ b = d := pt_inj
theorem hits_mem {x y : D} {n : Int} {L : List D} : n ∈ hits x y L ↔ D.tup [x, y, .int n] ∈ L := by
  unfold hits
  rw [List.mem_filterMap]
  constructor
  · rintro ⟨e, he, h⟩
    unfold hitI at h
    split at h
    · rename_i a b m
      by_cases q : a = x ∧ b = y
      · rw [if_pos q] at h
        cases h
        rw [← q.1, ← q.2]; exact he
      · rw [if_neg q] at h; cases h
    · cases h
  · intro h
    exact ⟨_, h, if_pos ⟨rfl, rfl⟩⟩
theorem edge_inj {x y x' y' : D} {n m : Int} : (D.tup [x, y, .int n] = D.tup [x', y', .int m]) ↔ x = x' ∧ y = y' ∧ n = m := by
  constructor
  · intro h
    have h := D.tup.inj h
    simp only [List.cons.injEq, D.int.injEq] at h
    exact ⟨h.1, h.2.1, h.2.2.1⟩
  · rintro ⟨rfl, rfl, rfl⟩; rfl
theorem rowE_mem {t r : Nat} {x y : D} {n : Int} : D.tup [x, y, .int n] ∈ rowE t r ↔ ∃ p, p < t ∧ ((x = pt (nodeR r (p + 1) t) ((p + 1 : Nat) : Int) ∧ y = pt (nodeR r p t) p ∧ n = 1) ∨ (x = pt (nodeR r p t) p ∧ y = pt (nodeR r (p + 1) t) ((p + 1 : Nat) : Int) ∧ n = 0)) := by
  unfold rowE
  rw [List.mem_flatMap]
  have e : ∀ p : Nat, rowP t r p = [.tup [pt (nodeR r (p + 1) t) ((p + 1 : Nat) : Int), pt (nodeR r p t) p, .int 1], .tup [pt (nodeR r p t) p, pt (nodeR r (p + 1) t) ((p + 1 : Nat) : Int), .int 0]] := by
    intro p
    unfold rowP
    rw [← node_nat r p t, ← node_nat r (p + 1) t]; rfl
  constructor
  · rintro ⟨p, hp, h⟩
    rw [e] at h
    simp only [List.mem_cons, List.not_mem_nil, or_false, edge_inj] at h
    exact ⟨p, List.mem_range.mp hp, h⟩
  · rintro ⟨p, hp, h⟩
    refine ⟨p, List.mem_range.mpr hp, ?_⟩
    rw [e]
    simp only [List.mem_cons, List.not_mem_nil, or_false, edge_inj]
    exact h
/-- the numbers from the one to the other at a knot -/
def kv (w : D) : List Int := match w with
  | .tup [.int i, .int j] => [0 - (i + j)]
  | .int i => if i = 1 then [-1] else []
  | _ => []
/-- the numbers back -/
def kb (w : D) : List Int := match w with
  | .tup [.int i, .int j] => [i + j]
  | .int i => if i = 1 then [] else if i = 0 then [1] else []
  | _ => []
theorem knotE_mem {x y a b w : D} {n : Int} : D.tup [x, y, .int n] ∈ knotE a b w ↔ (x = a ∧ y = b ∧ n ∈ kv w) ∨ (x = b ∧ y = a ∧ n ∈ kb w) := by
  unfold knotE kv kb
  split
  · simp only [List.mem_cons, List.not_mem_nil, or_false, edge_inj]
  · rename_i i
    by_cases h1 : i = 1
    · simp only [h1, if_true, List.mem_cons, List.not_mem_nil, or_false, edge_inj, and_false]
    · by_cases h0 : i = 0
      · simp [h0, edge_inj]
      · simp [h1, h0]
  · simp
def SpotW (t : Nat) (rows : List D) (r s : Nat) (w : D) : Prop := ∃ j : Nat, (spots t r)[j]? = some s ∧ (rowAt rows r)[j]? = some w
theorem zip_spot {t : Nat} {rows : List D} {r : Nat} {q : D} : q ∈ zipD (spotsD t r) (rowAt rows r) ↔ ∃ s w, q = .tup [.int (s : Nat), w] ∧ SpotW t rows r s w := by
  constructor
  · intro h
    obtain ⟨j, hj⟩ := List.getElem?_of_mem h
    obtain ⟨x, w, rfl, e1, e2⟩ := zipD_get hj
    unfold spotsD at e1
    rw [List.getElem?_map] at e1
    obtain ⟨s, es, rfl⟩ := Option.map_eq_some_iff.mp e1
    exact ⟨s, w, rfl, j, es, e2⟩
  · rintro ⟨s, w, rfl, j, e1, e2⟩
    have : (zipD (spotsD t r) (rowAt rows r))[j]? = some (.tup [.int (s : Nat), w]) := by
      unfold zipD spotsD
      rw [List.getElem?_zipWith, List.getElem?_map, e1, e2]; rfl
    exact List.mem_of_getElem? this
theorem spot_bound {t r s : Nat} (h : s ∈ spots t r) : s % 2 = r % 2 ∧ s + 2 ≤ t := by
  unfold spots at h
  obtain ⟨j, hj, rfl⟩ := List.mem_map.mp h
  have := List.mem_range.mp hj
  omega
theorem knotRow_mem {t : Nat} {rows : List D} {r : Nat} {x y : D} {n : Int} : D.tup [x, y, .int n] ∈ knotRow t rows r ↔ ∃ s w, SpotW t rows r s w ∧ ((x = pt (nodeR r s t) s ∧ y = pt (nodeR r (s + 2) t) ((s + 2 : Nat) : Int) ∧ n ∈ kv w) ∨ (x = pt (nodeR r (s + 2) t) ((s + 2 : Nat) : Int) ∧ y = pt (nodeR r s t) s ∧ n ∈ kb w)) := by
  unfold knotRow
  rw [List.mem_flatMap]
  have e : ∀ (s : Nat) (w : D), knotP t r (.tup [.int (s : Nat), w]) = knotE (pt (nodeR r s t) s) (pt (nodeR r (s + 2) t) ((s + 2 : Nat) : Int)) w := by
    intro s w
    show knotE (nodeD r s t) (nodeD r ((s : Int) + 2) t) w = _
    rw [← node_nat r s t, ← node_nat r (s + 2) t]; rfl
  constructor
  · rintro ⟨q, hq, h⟩
    obtain ⟨s, w, rfl, hs⟩ := zip_spot.mp hq
    rw [e, knotE_mem] at h
    exact ⟨s, w, hs, h⟩
  · rintro ⟨s, w, hs, h⟩
    refine ⟨_, zip_spot.mpr ⟨s, w, rfl, hs⟩, ?_⟩
    rw [e, knotE_mem]; exact h
theorem startP_mem {st : List Int} {p : Nat} {x y : D} {n : Int} : D.tup [x, y, .int n] ∈ startP st p ↔ (st[p]? = some 1 ∧ x = pt 0 p ∧ y = pt 0 ((p : Int) + 1) ∧ n = -1) ∨ (st[p]? = some 0 ∧ x = pt 0 ((p : Int) + 1) ∧ y = pt 0 p ∧ n = 0) := by
  unfold startP
  by_cases h1 : st[p]? = some 1
  · rw [if_pos h1]
    simp [edge_inj, h1]
  · rw [if_neg h1]
    by_cases h0 : st[p]? = some 0
    · rw [if_pos h0]
      simp [edge_inj, h0]
    · rw [if_neg h0]
      simp [h1, h0]
/-- told in M rows -/
def EdgeM (t : Nat) (rows : List D) (st : List Int) (M : Nat) (x y : D) (n : Int) : Prop :=
  (∃ r, r ≤ M ∧ D.tup [x, y, .int n] ∈ rowE t r) ∨ (∃ r, r < M ∧ D.tup [x, y, .int n] ∈ knotRow t rows r) ∨ ∃ p, p < st.length ∧ D.tup [x, y, .int n] ∈ startP st p
theorem webL_mem {t : Nat} {rows : List D} {st : List Int} {m : Nat} {x y : D} {n : Int} : n ∈ hits x y (webL t rows st m) ↔ EdgeM t rows st (m * rows.length) x y n := by
  rw [hits_mem]
  unfold webL startE EdgeM
  rw [List.mem_append, List.mem_append, List.mem_flatMap, List.mem_flatMap, List.mem_flatMap]
  simp only [List.mem_range]
  constructor
  · rintro ((⟨r, hr, h⟩ | h) | h)
    · exact .inl ⟨r, by omega, h⟩
    · exact .inr (.inl h)
    · exact .inr (.inr h)
  · rintro (⟨r, hr, h⟩ | h | h)
    · exact .inl (.inl ⟨r, by omega, h⟩)
    · exact .inl (.inr h)
    · exact .inr h
theorem nodeR_near {r c t : Nat} (h1 : 0 < c) (h2 : c < t) : r = nodeR r c t ∨ r = nodeR r c t + 1 := by
  unfold nodeR
  by_cases h : c = 0 ∨ c = t ∨ r = 0
  · rw [if_pos h]; omega
  · rw [if_neg h]; split <;> omega
/-- the law's numbers are those that are told in all rows -/
theorem edgeN_mem {t many : Nat} {rows : List D} {st : List Int} {x0 x1 y0 y1 : Nat} {n : Int} (ht : 3 ≤ t) (hst : st.length = t) : EdgeN t rows st many x0 x1 y0 y1 n ↔ EdgeM t rows st (rows.length * many) (pt x0 x1) (pt y0 y1) n := by
  have hk : ∀ r, n ∈ (zipD (spotsD t r) (rowAt rows r)).flatMap (knotsAt t rows (pt x0 x1) (pt y0 y1) r) ↔ D.tup [pt x0 x1, pt y0 y1, .int n] ∈ knotRow t rows r := by
    intro r
    unfold knotRow
    rw [List.mem_flatMap, List.mem_flatMap]
    constructor
    · rintro ⟨q, hq, h⟩
      refine ⟨q, hq, ?_⟩
      obtain ⟨s, w, rfl, _⟩ := zip_spot.mp hq
      exact hits_mem.mp h
    · rintro ⟨q, hq, h⟩
      refine ⟨q, hq, ?_⟩
      obtain ⟨s, w, rfl, _⟩ := zip_spot.mp hq
      exact hits_mem.mpr h
  have hrow : ∀ r, n ∈ rowNums t rows (rows.length * many) (pt x0 x1) (pt y0 y1) r ↔ (r ≤ rows.length * many ∧ D.tup [pt x0 x1, pt y0 y1, .int n] ∈ rowE t r) ∨ (r < rows.length * many ∧ D.tup [pt x0 x1, pt y0 y1, .int n] ∈ knotRow t rows r) := by
    intro r
    unfold rowNums
    rw [List.mem_append]
    by_cases h1 : r ≤ rows.length * many
    · rw [if_pos h1, hits_mem]
      by_cases h2 : r < rows.length * many
      · rw [if_pos h2, hk]; simp [h1, h2]
      · rw [if_neg h2]; simp [h1, h2]
    · rw [if_neg h1, if_neg (by omega)]
      constructor
      · rintro (h | h) <;> cases h
      · rintro (⟨h, _⟩ | ⟨h, _⟩) <;> omega
  have hstart : ∀ p, n ∈ startNum st (pt x0 x1) (pt y0 y1) p ↔ D.tup [pt x0 x1, pt y0 y1, .int n] ∈ startP st p := by
    intro p
    rw [startP_mem]
    unfold startNum
    by_cases h1 : st[p]? = some 1 ∧ pt (x0 : Int) (x1 : Int) = pt 0 p ∧ pt (y0 : Int) (y1 : Int) = pt 0 ((p : Int) + 1)
    · rw [if_pos h1]
      constructor
      · intro h; simp at h; exact .inl ⟨h1.1, h1.2.1, h1.2.2, h⟩
      · rintro (⟨_, _, _, h⟩ | ⟨h, _⟩)
        · simp [h]
        · rw [h1.1] at h; cases h
    · rw [if_neg h1]
      by_cases h2 : st[p]? = some 0 ∧ pt (x0 : Int) (x1 : Int) = pt 0 ((p : Int) + 1) ∧ pt (y0 : Int) (y1 : Int) = pt 0 p
      · rw [if_pos h2]
        constructor
        · intro h; simp at h; exact .inr ⟨h2.1, h2.2.1, h2.2.2, h⟩
        · rintro (⟨h, _⟩ | ⟨_, _, _, h⟩)
          · rw [h2.1] at h; cases h
          · simp [h]
      · rw [if_neg h2]
        constructor
        · intro h; cases h
        · rintro (⟨a, b, c, _⟩ | ⟨a, b, c, _⟩)
          · exact absurd ⟨a, b, c⟩ h1
          · exact absurd ⟨a, b, c⟩ h2
  -- where a row can be
  have in1 : ∀ r, D.tup [pt x0 x1, pt y0 y1, .int n] ∈ rowE t r → r = x0 ∨ r = x0 + 1 ∨ r = y0 ∨ r = y0 + 1 := by
    intro r h
    obtain ⟨p, hp, h⟩ := rowE_mem.mp h
    by_cases hz : p = 0
    · have := nodeR_near (r := r) (c := p + 1) (t := t) (by omega) (by omega)
      rcases h with ⟨a, b, _⟩ | ⟨a, b, _⟩
      · have := (ptn_inj.mp a).1; omega
      · have := (ptn_inj.mp b).1; omega
    · have := nodeR_near (r := r) (c := p) (t := t) (by omega) (by omega)
      rcases h with ⟨a, b, _⟩ | ⟨a, b, _⟩
      · have := (ptn_inj.mp b).1; omega
      · have := (ptn_inj.mp a).1; omega
  have in2 : ∀ r, D.tup [pt x0 x1, pt y0 y1, .int n] ∈ knotRow t rows r → r = x0 ∨ r = x0 + 1 ∨ r = y0 ∨ r = y0 + 1 := by
    intro r h
    obtain ⟨s, w, ⟨j, hs, _⟩, h⟩ := knotRow_mem.mp h
    have hb := spot_bound (List.mem_of_getElem? hs)
    by_cases hz : s = 0
    · have := nodeR_near (r := r) (c := s + 2) (t := t) (by omega) (by omega)
      rcases h with ⟨a, b, _⟩ | ⟨a, b, _⟩
      · have := (ptn_inj.mp b).1; omega
      · have := (ptn_inj.mp a).1; omega
    · have := nodeR_near (r := r) (c := s) (t := t) (by omega) (by omega)
      rcases h with ⟨a, b, _⟩ | ⟨a, b, _⟩
      · have := (ptn_inj.mp a).1; omega
      · have := (ptn_inj.mp b).1; omega
  unfold EdgeN EdgeM
  constructor
  · rintro (⟨r, hr, h⟩ | ⟨p, hp, h⟩)
    · rcases (hrow r).mp h with ⟨a, b⟩ | ⟨a, b⟩
      · exact .inl ⟨r, a, b⟩
      · exact .inr (.inl ⟨r, a, b⟩)
    · exact .inr (.inr ⟨p, by omega, (hstart p).mp h⟩)
  · rintro (⟨r, a, b⟩ | ⟨r, a, b⟩ | ⟨p, a, b⟩)
    · exact .inl ⟨r, in1 r b, (hrow r).mpr (.inl ⟨a, b⟩)⟩
    · exact .inl ⟨r, in2 r b, (hrow r).mpr (.inr ⟨a, b⟩)⟩
    · exact .inr ⟨p, by omega, (hstart p).mpr b⟩
end K59
end
section
set_option Elab.async false
set_option linter.all false
set_option maxRecDepth 100000
set_option maxHeartbeats 4000000
namespace K59
open PySem PySem.Spec PyProof.Rows L2 TL
theorem pti {a b c d : Int} : pt a b = pt c d ↔ a = c ∧ b = d := by
  constructor
  · intro h
    have h := D.tup.inj h
    simp only [List.cons.injEq, D.int.injEq] at h
    exact ⟨h.1, h.2.1⟩
  · rintro ⟨rfl, rfl⟩; rfl
theorem nodeR_pole {r c t : Nat} (h : c = 0 ∨ c = t) : nodeR r c t = 0 := if_pos (by omega)
theorem nodeR_in {r c t : Nat} (h1 : 0 < c) (h2 : c < t) (h3 : 0 < r) : nodeR r c t = if (r + c) % 2 = 0 then r else r - 1 := if_neg (by omega)
section
variable {t : Nat} {rows : List D} {st : List Int} {M row c s p : Nat} {n : Int}
theorem step_edge (ht : 3 ≤ t) (hr : 2 ≤ row) (he : row % 2 = 0) (hM : M % 2 = 0) (hc : c < t) :
    EdgeM t rows st M (pt (nodeR row c t) c) (pt (nodeR row (c + 1) t) ((c + 1 : Nat) : Int)) n ↔ n = 0 ∧ row ≤ M := by
  have np : ∃ c', (c' = c ∨ c' = c + 1) ∧ 0 < c' ∧ c' < t := by
    by_cases h : c = 0
    · exact ⟨c + 1, .inr rfl, by omega, by omega⟩
    · exact ⟨c, .inl rfl, by omega, by omega⟩
  constructor
  · rintro (⟨r, hr', h⟩ | ⟨r, hr', h⟩ | ⟨q, hq, h⟩)
    · obtain ⟨q, hq, ⟨a, b, _⟩ | ⟨a, b, hn⟩⟩ := rowE_mem.mp h
      · have := (pti.mp a).2; have := (pti.mp b).2; omega
      · have h1 := pti.mp a
        have h2 := pti.mp b
        have : c = q := by omega
        subst this
        obtain ⟨c', hc', l1, l2⟩ := np
        have e : nodeR row c' t = nodeR r c' t := by rcases hc' with rfl | rfl <;> omega
        have n1 := nodeR_near (r := row) l1 l2
        have n2 := nodeR_near (r := r) l1 l2
        exact ⟨hn, by omega⟩
    · obtain ⟨s, w, _, ⟨a, b, _⟩ | ⟨a, b, _⟩⟩ := knotRow_mem.mp h
      · have := (pti.mp a).2; have := (pti.mp b).2; omega
      · have := (pti.mp a).2; have := (pti.mp b).2; omega
    · rcases startP_mem.mp h with ⟨_, a, b, _⟩ | ⟨_, a, b, _⟩
      · have h1 := pti.mp a
        have h2 := pti.mp b
        obtain ⟨c', hc', l1, l2⟩ := np
        have n1 := nodeR_near (r := row) l1 l2
        rcases hc' with rfl | rfl <;> omega
      · have := (pti.mp a).2; have := (pti.mp b).2; omega
  · rintro ⟨rfl, h⟩
    exact .inl ⟨row, h, rowE_mem.mpr ⟨c, hc, .inr ⟨rfl, rfl, rfl⟩⟩⟩
def KV (t : Nat) (rows : List D) (r s : Nat) (n : Int) : Prop := ∃ w, SpotW t rows r s w ∧ n ∈ kv w
theorem knot_edge (ht : 3 ≤ t) (hr : 1 ≤ row) (he : s % 2 = row % 2) (hs : s + 2 ≤ t) :
    EdgeM t rows st M (pt (nodeR row s t) s) (pt (nodeR row (s + 2) t) ((s + 2 : Nat) : Int)) n ↔ row < M ∧ KV t rows row s n := by
  constructor
  · rintro (⟨r, hr', h⟩ | ⟨r, hr', h⟩ | ⟨q, hq, h⟩)
    · obtain ⟨q, hq, ⟨a, b, _⟩ | ⟨a, b, hn⟩⟩ := rowE_mem.mp h
      · have := (pti.mp a).2; have := (pti.mp b).2; omega
      · have := (pti.mp a).2; have := (pti.mp b).2; omega
    · obtain ⟨s', w, hw, ⟨a, b, hn⟩ | ⟨a, b, _⟩⟩ := knotRow_mem.mp h
      · have h1 := pti.mp a
        have h2 := pti.mp b
        have : s = s' := by omega
        subst this
        obtain ⟨j, ej, _⟩ := id hw
        have hb := (spot_bound (List.mem_of_getElem? ej)).1
        have er : r = row := by
          by_cases hz : s = 0
          · have q1 : nodeR row (s + 2) t = row := by
              have := nodeR_in (r := row) (c := s + 2) (t := t) (by omega) (by omega) (by omega)
              rw [this, if_pos (by omega)]
            have q2 : nodeR r (s + 2) t = r ∨ r = 0 := by
              by_cases r0 : r = 0
              · exact .inr r0
              · left
                have := nodeR_in (r := r) (c := s + 2) (t := t) (by omega) (by omega) (by omega)
                rw [this, if_pos (by omega)]
            rcases q2 with q2 | q2
            · omega
            · subst q2
              have : nodeR 0 (s + 2) t = 0 := if_pos (by omega)
              omega
          · have q1 : nodeR row s t = row := by
              have := nodeR_in (r := row) (c := s) (t := t) (by omega) (by omega) (by omega)
              rw [this, if_pos (by omega)]
            have q2 : nodeR r s t = r ∨ r = 0 := by
              by_cases r0 : r = 0
              · exact .inr r0
              · left
                have := nodeR_in (r := r) (c := s) (t := t) (by omega) (by omega) (by omega)
                rw [this, if_pos (by omega)]
            rcases q2 with q2 | q2
            · omega
            · subst q2
              have : nodeR 0 s t = 0 := if_pos (by omega)
              omega
        subst er
        exact ⟨hr', w, hw, hn⟩
      · have := (pti.mp a).2; have := (pti.mp b).2; omega
    · rcases startP_mem.mp h with ⟨_, a, b, _⟩ | ⟨_, a, b, _⟩
      · have := (pti.mp a).2; have := (pti.mp b).2; omega
      · have := (pti.mp a).2; have := (pti.mp b).2; omega
  · rintro ⟨h, w, hw, hn⟩
    exact .inr (.inl ⟨row, h, knotRow_mem.mpr ⟨s, w, hw, .inl ⟨rfl, rfl, hn⟩⟩⟩)
theorem start_edge (hp : p < t) (hst : st.length = t) : EdgeM t rows st M (pt 0 ((p + 1 : Nat) : Int)) (pt 0 p) n ↔ n = 1 ∨ (n = 0 ∧ st[p]? = some 0) := by
  constructor
  · rintro (⟨r, hr', h⟩ | ⟨r, hr', h⟩ | ⟨q, hq, h⟩)
    · obtain ⟨q, hq, ⟨a, b, hn⟩ | ⟨a, b, hn⟩⟩ := rowE_mem.mp h
      · exact .inl hn
      · have := (pti.mp a).2; have := (pti.mp b).2; omega
    · obtain ⟨s', w, hw, ⟨a, b, hn⟩ | ⟨a, b, _⟩⟩ := knotRow_mem.mp h
      · have := (pti.mp a).2; have := (pti.mp b).2; omega
      · have := (pti.mp a).2; have := (pti.mp b).2; omega
    · rcases startP_mem.mp h with ⟨_, a, b, _⟩ | ⟨h0, a, b, hn⟩
      · have := (pti.mp a).2; have := (pti.mp b).2; omega
      · have := (pti.mp b).2
        have : q = p := by omega
        subst this
        exact .inr ⟨hn, h0⟩
  · rintro (rfl | ⟨rfl, h0⟩)
    · have e : ∀ c, nodeR 0 c t = 0 := fun c => if_pos (by omega)
      refine .inl ⟨0, Nat.zero_le _, rowE_mem.mpr ⟨p, hp, .inl ⟨?_, ?_, rfl⟩⟩⟩
      · rw [e]; rfl
      · rw [e]; rfl
    · exact .inr (.inr ⟨p, by omega, startP_mem.mpr (.inr ⟨h0, rfl, rfl, rfl⟩)⟩)
end
/-! ### moved by whole motifs -/
theorem node_shift {row b c t : Nat} (hr : b + 2 ≤ row) (hb : b % 2 = 0) : shD (b : Int) (nodeR row c t) = ((nodeR (row - b) c t : Nat) : Int) := by
  by_cases h : 0 < c ∧ c < t
  · rw [nodeR_in h.1 h.2 (by omega), nodeR_in h.1 h.2 (by omega)]
    have e : (row - b + c) % 2 = (row + c) % 2 := by omega
    rw [e]
    unfold shD
    by_cases q : (row + c) % 2 = 0
    · rw [if_pos q, if_pos q, if_pos (by omega)]; omega
    · rw [if_neg q, if_neg q, if_pos (by omega)]; omega
  · have h' : c = 0 ∨ c = t ∨ t < c := by omega
    rcases h' with h' | h' | h'
    · rw [nodeR_pole (.inl h'), nodeR_pole (.inl h')]; unfold shD; rw [if_neg (by omega)]
    · rw [nodeR_pole (.inr h'), nodeR_pole (.inr h')]; unfold shD; rw [if_neg (by omega)]
    · have e1 : nodeR row c t = if (row + c) % 2 = 0 then row else row - 1 := if_neg (by omega)
      have e2 : nodeR (row - b) c t = if (row - b + c) % 2 = 0 then row - b else row - b - 1 := if_neg (by omega)
      rw [e1, e2, show (row - b + c) % 2 = (row + c) % 2 by omega]
      unfold shD
      by_cases q : (row + c) % 2 = 0
      · rw [if_pos q, if_pos q, if_pos (by omega)]; omega
      · rw [if_neg q, if_neg q, if_pos (by omega)]; omega
theorem by_facts {g many row far : Nat} (hg : 2 ≤ g) (hge : g % 2 = 0) (hm : 1 ≤ many) (hr : 2 ≤ row) (he : row % 2 = 0) (hf : far = row ∨ far + 1 = row) :
    ∃ b : Nat, byD g many far = (b : Int) ∧ b % 2 = 0 ∧ b % g = 0 ∧ b + 2 ≤ row ∧ (row ≤ g * many ↔ far ≤ many * g ∧ row - b ≤ min many 3 * g) ∧ (far = row → (row < g * many ↔ far ≤ many * g ∧ row - b < min many 3 * g)) := by
  have hc : g * many = many * g := Nat.mul_comm _ _
  have heP : (many * g) % 2 = 0 := by rw [Nat.mul_mod, hge]; simp
  have he3 : (3 * g) % 2 = 0 := by omega
  rw [hc]
  unfold byD
  by_cases h0 : many ≤ 3
  · refine ⟨0, ?_, rfl, by simp, by omega, ?_, ?_⟩
    · rw [if_pos (.inl (by omega))]; rfl
    · rw [Nat.min_eq_left h0]; omega
    · intro; rw [Nat.min_eq_left h0]; omega
  · rw [Nat.min_eq_right (by omega)]
    have h4 : 4 * g ≤ many * g := Nat.mul_le_mul_right g (by omega)
    by_cases h1 : far ≤ 2 * g
    · refine ⟨0, ?_, rfl, by simp, by omega, by omega, by omega⟩
      rw [if_pos (.inr (by omega))]; rfl
    · rw [if_neg (by omega)]
      by_cases h2 : many * g - g < far
      · have e : ((many : Int) * (g : Int)) = ((many * g : Nat) : Int) := rfl
        refine ⟨many * g - 3 * g, ?_, by omega, ?_, by omega, by omega, by omega⟩
        · rw [if_pos (by rw [e]; omega), e]; omega
        · rw [← Nat.sub_mul]; exact Nat.mul_mod_left _ _
      · have e : ((many : Int) * (g : Int)) = ((many * g : Nat) : Int) := rfl
        rw [if_neg (by rw [e]; omega)]
        have d1 : (far - 1) / g * g ≤ far - 1 := Nat.div_mul_le_self _ _
        have d2 : far - 1 < (far - 1) / g * g + g := by
          have := Nat.lt_div_mul_add (a := far - 1) (b := g) (by omega)
          exact this
        have hA : ((far - 1) / g * g) % 2 = 0 := by rw [Nat.mul_mod, hge]; simp
        have ei : (((far : Int) - 1) / (g : Int) * (g : Int)) = (((far - 1) / g * g : Nat) : Int) := by
          rw [show ((far : Int) - 1) = ((far - 1 : Nat) : Int) by omega]; rfl
        have hq : 1 ≤ (far - 1) / g := by
          by_cases z : (far - 1) / g = 0
          · rw [z] at d2; omega
          · exact Nat.pos_of_ne_zero z
        have hsub : (far - 1) / g * g - g = ((far - 1) / g - 1) * g := by rw [Nat.sub_mul, Nat.one_mul]
        refine ⟨(far - 1) / g * g - g, ?_, by omega, ?_, by omega, by omega, by omega⟩
        · rw [ei]; omega
        · rw [hsub]; exact Nat.mul_mod_left _ _
theorem rowAt_shift {rows : List D} {row b : Nat} (h : b % rows.length = 0) (hb : b ≤ row) : rowAt rows (row - b) = rowAt rows row := by
  unfold rowAt
  have : (row - b) % rows.length = row % rows.length := by
    have e : row = (row - b) + b := by omega
    conv => rhs; rw [e, Nat.add_mod, h, Nat.add_zero, Nat.mod_mod]
  rw [this]
theorem spots_shift {t row b : Nat} (h : b % 2 = 0) (hb : b ≤ row) : spots t (row - b) = spots t row := by
  unfold spots
  rw [show (row - b) % 2 = row % 2 by omega]
theorem kv_shift {t : Nat} {rows : List D} {row b s : Nat} {n : Int} (h : b % rows.length = 0) (h2 : b % 2 = 0) (hb : b ≤ row) : KV t rows (row - b) s n ↔ KV t rows row s n := by
  unfold KV SpotW
  rw [rowAt_shift h hb, spots_shift h2 hb]
end K59
end
section
set_option Elab.async false
set_option linter.all false
set_option maxRecDepth 100000
set_option maxHeartbeats 4000000
namespace K59
open PySem PySem.Spec PyProof.Rows L2 TL
inductive Nice (t row : Nat) : Nat → Nat → Nat → Nat → Prop
  | knot (s : Nat) : s % 2 = row % 2 → s + 2 ≤ t → Nice t row (nodeR row s t) s (nodeR row (s + 2) t) (s + 2)
  | step (c : Nat) : c < t → Nice t row (nodeR row c t) c (nodeR row (c + 1) t) (c + 1)
  | start (p : Nat) : p < t → Nice t row 0 (p + 1) 0 p
theorem nodeR_le (r c t : Nat) : nodeR r c t ≤ r := by
  unfold nodeR
  split
  · omega
  · split <;> omega
theorem min_iff {E E' F : Int → Prop} {A A' B : Prop} {n : Int} (h : ∀ m, E m ↔ A ∧ F m) (h' : ∀ m, E' m ↔ A' ∧ F m) (hab : A ↔ B ∧ A') : (E n ∧ ∀ m, E m → n ≤ m) ↔ B ∧ (E' n ∧ ∀ m, E' m → n ≤ m) := by
  constructor
  · rintro ⟨h1, h2⟩
    have q := (h n).mp h1
    have ab := hab.mp q.1
    exact ⟨ab.1, (h' n).mpr ⟨ab.2, q.2⟩, fun m hm => h2 m ((h m).mpr ⟨q.1, ((h' m).mp hm).2⟩)⟩
  · rintro ⟨hb, h1, h2⟩
    have q := (h' n).mp h1
    have a := hab.mpr ⟨hb, q.1⟩
    exact ⟨(h n).mpr ⟨a, q.2⟩, fun m hm => h2 m ((h' m).mpr ⟨q.1, ((h m).mp hm).2⟩)⟩
theorem numIs_iff {t many : Nat} {rows : List D} {st : List Int} {w : Wsh} (ht : 3 ≤ t) (hst : st.length = t) : NumIs t rows st many w ↔ EdgeM t rows st (rows.length * many) (pt w.x0 w.x1) (pt w.y0 w.y1) w.n ∧ ∀ m, EdgeM t rows st (rows.length * many) (pt w.x0 w.x1) (pt w.y0 w.y1) m → w.n ≤ m := by
  unfold NumIs
  rw [edgeN_mem ht hst]
  constructor
  · rintro ⟨a, b⟩; exact ⟨a, fun m hm => b m ((edgeN_mem ht hst).mpr hm)⟩
  · rintro ⟨a, b⟩; exact ⟨a, fun m hm => b m ((edgeN_mem ht hst).mp hm)⟩
theorem nearIs_iff {t g many : Nat} {rows : List D} {st : List Int} {w : Wsh} {m : Nat} {b : Int} (hb : byD g many (max (w.x0 : Int) w.y0) = b) (hne : pt (shD b w.x0) w.x1 ≠ pt (shD b w.y0) w.y1) :
    NearIs g many (webL t rows st m) w ↔ EdgeM t rows st (m * rows.length) (pt (shD b w.x0) w.x1) (pt (shD b w.y0) w.y1) w.n ∧ ∀ n, EdgeM t rows st (m * rows.length) (pt (shD b w.x0) w.x1) (pt (shD b w.y0) w.y1) n → w.n ≤ n := by
  unfold NearIs
  rw [hb, webL_mem]
  constructor
  · rintro ⟨_, a, c⟩; exact ⟨a, fun n hn => c n (webL_mem.mpr hn)⟩
  · rintro ⟨a, c⟩; exact ⟨hne, a, fun n hn => c n (webL_mem.mp hn)⟩
theorem even_mul {g m : Nat} (h : g % 2 = 0) : (g * m) % 2 = 0 ∧ (m * g) % 2 = 0 := by
  constructor <;> rw [Nat.mul_mod, h] <;> simp
/-- the program's judgement of a sound pair of nodes is the law's -/
theorem nice_iff {t many row : Nat} {rows : List D} {st : List Int} {w : Wsh} (ht : 3 ≤ t) (hst : st.length = t) (hg : 2 ≤ rows.length) (hge : rows.length % 2 = 0) (hm : 1 ≤ many) (hr : 2 ≤ row) (he : row % 2 = 0)
    (h : Nice t row w.x0 w.x1 w.y0 w.y1) : NumIs t rows st many w ↔ formB t rows.length many w ∧ NearIs rows.length many (webL t rows st (min many 3)) w := by
  obtain ⟨x0, x1, y0, y1, n⟩ := w
  rw [numIs_iff ht hst]
  simp only at h ⊢
  cases h with
  | knot _ hs hs2 =>
    have far : max (nodeR row x1 t) (nodeR row (x1 + 2) t) = row := by
      have l1 := nodeR_le row x1 t
      have l2 := nodeR_le row (x1 + 2) t
      by_cases hz : x1 = 0
      · have : nodeR row (x1 + 2) t = row := by rw [nodeR_in (by omega) (by omega) (by omega), if_pos (by omega)]
        omega
      · have : nodeR row x1 t = row := by rw [nodeR_in (by omega) (by omega) (by omega), if_pos (by omega)]
        omega
    obtain ⟨b, hb, b2, bg, br, _, F2⟩ := by_facts (far := row) hg hge hm hr he (.inl rfl)
    have hb' : byD rows.length many (max ((nodeR row x1 t : Nat) : Int) ((nodeR row (x1 + 2) t : Nat) : Int)) = (b : Int) := by
      rw [show max ((nodeR row x1 t : Nat) : Int) ((nodeR row (x1 + 2) t : Nat) : Int) = ((row : Nat) : Int) by omega]; exact hb
    have e1 := node_shift (t := t) (c := x1) br b2
    have e2 := node_shift (t := t) (c := x1 + 2) br b2
    rw [nearIs_iff (b := b) hb' (by simp only; intro z; have := (pti.mp z).2; omega)]
    simp only
    rw [e1, e2]
    refine min_iff (A := row < rows.length * many) (A' := row - b < min many 3 * rows.length) (F := KV t rows row x1) (fun m => knot_edge ht (by omega) (by omega) hs2) (fun m => ?_) ?_
    · rw [knot_edge ht (by omega) (by omega) hs2, kv_shift bg b2 (by omega)]
    · rw [F2 rfl]
      unfold formB
      simp only
      omega
  | step _ hc =>
    have l1 := nodeR_le row x1 t
    have l2 := nodeR_le row (x1 + 1) t
    have hfar : max (nodeR row x1 t) (nodeR row (x1 + 1) t) = row ∨ max (nodeR row x1 t) (nodeR row (x1 + 1) t) + 1 = row := by
      by_cases hz : x1 = 0
      · have := nodeR_near (r := row) (c := x1 + 1) (t := t) (by omega) (by omega); omega
      · have := nodeR_near (r := row) (c := x1) (t := t) (by omega) (by omega); omega
    obtain ⟨b, hb, b2, bg, br, F1, _⟩ := by_facts (far := max (nodeR row x1 t) (nodeR row (x1 + 1) t)) hg hge hm hr he hfar
    have hb' : byD rows.length many (max ((nodeR row x1 t : Nat) : Int) ((nodeR row (x1 + 1) t : Nat) : Int)) = (b : Int) := by
      rw [show max ((nodeR row x1 t : Nat) : Int) ((nodeR row (x1 + 1) t : Nat) : Int) = ((max (nodeR row x1 t) (nodeR row (x1 + 1) t) : Nat) : Int) by omega]; exact hb
    have e1 := node_shift (t := t) (c := x1) br b2
    have e2 := node_shift (t := t) (c := x1 + 1) br b2
    rw [nearIs_iff (b := b) hb' (by simp only; intro z; have := (pti.mp z).2; omega)]
    simp only
    rw [e1, e2]
    refine min_iff (A := row ≤ rows.length * many) (A' := row - b ≤ min many 3 * rows.length) (F := fun m => m = 0) (fun m => ?_) (fun m => ?_) ?_
    · rw [step_edge ht hr he (even_mul hge).1 hc, and_comm]
    · rw [step_edge ht (by omega) (by omega) (even_mul hge).2 hc, and_comm]
    · rw [F1]
      unfold formB
      simp only
      omega
  | start _ hp =>
    have hb' : byD rows.length many (max ((0 : Nat) : Int) ((0 : Nat) : Int)) = ((0 : Nat) : Int) := by
      have : max ((0 : Nat) : Int) ((0 : Nat) : Int) = 0 := by omega
      rw [this]
      exact if_pos (.inr (by omega))
    rw [nearIs_iff (b := ((0 : Nat) : Int)) hb' (by simp only; intro z; have := (pti.mp z).2; omega)]
    simp only
    have e0 : shD ((0 : Nat) : Int) ((0 : Nat) : Int) = 0 := sh0 0
    rw [e0]
    refine min_iff (A := True) (A' := True) (F := fun m => m = 1 ∨ (m = 0 ∧ st[y1]? = some 0)) (fun m => ?_) (fun m => ?_) ?_
    · have := start_edge (t := t) (rows := rows) (M := rows.length * many) (n := m) hp hst
      exact this.trans (by simp)
    · have := start_edge (t := t) (rows := rows) (M := min many 3 * rows.length) (n := m) hp hst
      exact this.trans (by simp)
    · unfold formB
      simp only
      constructor
      · intro _; exact ⟨⟨⟨by omega, Nat.zero_le _⟩, by omega, Nat.zero_le _⟩, trivial⟩
      · intro _; trivial
/-- a ring of sound pairs -/
theorem ring_iff {t many row : Nat} {rows : List D} {st : List Int} {l : List Wsh} (ht : 3 ≤ t) (hst : st.length = t) (hg : 2 ≤ rows.length) (hge : rows.length % 2 = 0) (hr : 2 ≤ row) (he : row % 2 = 0)
    (h : ∀ w ∈ l, Nice t row w.x0 w.x1 w.y0 w.y1) : IsFar t rows st many l ↔ NeverP t rows st many l := by
  constructor
  · rintro ⟨h1, h2, h3, h4, h5⟩
    exact ⟨h1, h2, fun w hw => ((nice_iff ht hst hg hge h1.1 hr he (h w hw)).mp (h3 w hw)).1, fun w hw => ((nice_iff ht hst hg hge h1.1 hr he (h w hw)).mp (h3 w hw)).2, h4, h5⟩
  · rintro ⟨h1, h2, h3, h3', h4, h5⟩
    exact ⟨h1, h2, fun w hw => (nice_iff ht hst hg hge h1.1 hr he (h w hw)).mpr ⟨h3 w hw, h3' w hw⟩, h4, h5⟩
/-! chains -/
def IsPath : Nat × Nat → List Wsh → Nat × Nat → Prop
  | a, [], b => a = b
  | a, w :: l, b => (w.x0, w.x1) = a ∧ IsPath (w.y0, w.y1) l b
theorem path_app : ∀ {l m : List Wsh} {a b c : Nat × Nat}, IsPath a l b → IsPath b m c → IsPath a (l ++ m) c
  | [], m, a, b, c, h, h' => by rw [show a = b from h]; exact h'
  | w :: l, m, a, b, c, h, h' => ⟨h.1, path_app h.2 h'⟩
theorem path_zip : ∀ {l : List Wsh} {w v : Wsh} {a b : Nat × Nat}, IsPath a (w :: l) b → (v.x0, v.x1) = b → ∀ p ∈ (w :: l).zip (l ++ [v]), p.1.y0 = p.2.x0 ∧ p.1.y1 = p.2.x1
  | [], w, v, a, b, h, hv, p, hp => by
    simp at hp
    subst hp
    have h2 : (w.y0, w.y1) = b := h.2
    rw [← hv] at h2
    simp at h2
    exact h2
  | u :: l, w, v, a, b, h, hv, p, hp => by
    rw [List.cons_append, List.zip_cons_cons, List.mem_cons] at hp
    rcases hp with rfl | hp
    · have h2 := h.2.1
      simp at h2
      exact ⟨h2.1.symm, h2.2.symm⟩
    · exact path_zip h.2 hv p hp
theorem path_chain {l : List Wsh} {a : Nat × Nat} (h : IsPath a l a) : Chain l := by
  cases l with
  | nil => intro p hp; cases hp
  | cons w l => exact path_zip (v := w) h h.1
theorem rot_get {l : List Wsh} {i : Nat} (hi : i < l.length) : (rot l)[i]? = l[(i + 1) % l.length]? := by
  unfold rot
  by_cases h : i + 1 < l.length
  · rw [List.getElem?_append_left (by rw [List.length_drop]; omega), List.getElem?_drop, Nat.mod_eq_of_lt h, Nat.add_comm]
  · have e : i + 1 = l.length := by omega
    rw [List.getElem?_append_right (by rw [List.length_drop]; omega), List.length_drop, e, Nat.mod_self, show i - (l.length - 1) = 0 by omega]
    cases l with
    | nil => simp at hi
    | cons w l => rfl
theorem chain_at {l : List Wsh} : Chain l ↔ ∀ (i : Nat) (a b : Wsh), l[i]? = some a → l[(i + 1) % l.length]? = some b → a.y0 = b.x0 ∧ a.y1 = b.x1 := by
  constructor
  · intro h i a b ha hb
    have hi := (List.getElem?_eq_some_iff.mp ha).1
    refine h (a, b) (List.mem_of_getElem? (i := i) ?_)
    rw [List.getElem?_zip_eq_some]
    exact ⟨ha, by rw [rot_get hi]; exact hb⟩
  · intro h p hp
    obtain ⟨i, hi⟩ := List.getElem?_of_mem hp
    rw [List.getElem?_zip_eq_some] at hi
    have hlt := (List.getElem?_eq_some_iff.mp hi.1).1
    exact h i p.1 p.2 hi.1 (by rw [← rot_get hlt]; exact hi.2)
theorem broken {l : List Wsh} {k : Nat} {w w' : Wsh} (hc : Chain l) (hl : 2 ≤ l.length) (hk : l[k]? = some w) (h : ¬ (w'.x0 = w.x0 ∧ w'.x1 = w.x1) ∨ ¬ (w'.y0 = w.y0 ∧ w'.y1 = w.y1)) : ¬ Chain (l.set k w') := by
  intro hc'
  have hkl := (List.getElem?_eq_some_iff.mp hk).1
  rw [chain_at] at hc hc'
  rcases h with h | h
  · obtain ⟨i, hi, hne, hik⟩ : ∃ i, i < l.length ∧ i ≠ k ∧ (i + 1) % l.length = k := by
      by_cases z : k = 0
      · exact ⟨l.length - 1, by omega, by omega, by rw [show l.length - 1 + 1 = l.length by omega, Nat.mod_self, z]⟩
      · exact ⟨k - 1, by omega, by omega, by rw [show k - 1 + 1 = k by omega, Nat.mod_eq_of_lt hkl]⟩
    have ei := List.getElem?_eq_getElem hi
    have q1 := hc i _ w ei (by rw [hik]; exact hk)
    have q2 := hc' i l[i] w' (by rw [List.getElem?_set_ne (Ne.symm hne)]; exact ei) (by rw [List.length_set, hik, List.getElem?_set_self hkl])
    exact h ⟨q2.1.symm.trans q1.1, q2.2.symm.trans q1.2⟩
  · have hne : (k + 1) % l.length ≠ k := by
      by_cases z : k + 1 < l.length
      · rw [Nat.mod_eq_of_lt z]; omega
      · rw [show k + 1 = l.length by omega, Nat.mod_self]; omega
    have hlt : (k + 1) % l.length < l.length := Nat.mod_lt _ (by omega)
    have ei := List.getElem?_eq_getElem hlt
    have q1 := hc k w _ hk ei
    have q2 := hc' k w' l[(k + 1) % l.length] (by rw [List.getElem?_set_self hkl]) (by rw [List.length_set, List.getElem?_set_ne hne.symm]; exact ei)
    exact h ⟨q2.1.trans q1.1.symm, q2.2.trans q1.2.symm⟩
end K59
end
section
set_option Elab.async false
set_option linter.all false
set_option maxRecDepth 100000
set_option maxHeartbeats 4000000
namespace K59
open PySem PySem.Spec PyProof.Rows L2 TL
/-! ### the ring that the law makes -/
def lst (w : D) : Int := match w with
  | .tup [.int i, .int j] => i + j
  | .int i => if i = 1 then 1 else 0
  | _ => 0
def isT (w : D) : Bool := match w with
  | .tup _ => true
  | _ => false
def kLine (t row s : Nat) (w : D) : List Wsh := if 0 < lst w ∨ isT w = true then [⟨nodeR row s t, s, nodeR row (s + 2) t, s + 2, 0 - lst w⟩]
  else [⟨nodeR row s t, s, nodeR row (s + 1) t, s + 1, 0⟩, ⟨nodeR row (s + 1) t, s + 1, nodeR row (s + 2) t, s + 2, 0⟩]
def upLine (t row : Nat) (ws : List D) (i : Nat) : List Wsh := (List.range i).flatMap fun j => kLine t row (2 * j) (ws.getD j .non)
def oddLine (t row : Nat) : List Wsh := if t % 2 = 1 then [⟨nodeR row (t - 1) t, t - 1, 0, t, 0⟩] else []
def downP (st : List Int) (t k : Nat) : Wsh := ⟨0, t - 1 - k + 1, 0, t - 1 - k, st.getD (t - 1 - k) 0⟩
def theLine (t row : Nat) (ws : List D) (st : List Int) : List Wsh := upLine t row ws ws.length ++ oddLine t row ++ (List.range t).map (downP st t)
theorem kLine_len (t row s : Nat) (w : D) : (kLine t row s w).length ≤ 2 := by
  unfold kLine
  split <;> simp
section
variable {sS sN : Spd} (hS : SpotsOk sS) (hN : NodeOk sN)
variable {t row s : Nat} {ws : List D} {stD w : D} {acc : List Wsh} {q : Addr} {v7 v8 v9 v10 v11 : Option D} {E : EndsD} {G : Gp}
include hN in
theorem ring_turn (hw : wishOk w) (gq : G q = some (.lst (acc.map wD))) (hz : acc.length < 1000)
    (k : ∀ q' u7 u8 u9 u10 G', G q' = none → GSame G G' → G' q' = some (.lst ((acc ++ kLine t row s w).map wD)) → E.nx [some (.int t), some (.tup ws), some stD, some (.int row), some (.ref q'), some (.int s), some w, u7, u8, u9, u10, v11] G') :
    rd__law_far_ring_3 sS sN E [some (.int t), some (.tup ws), some stD, some (.int row), some (.ref q), some (.int s), some w, v7, v8, v9, v10, v11] G := by
  have n0 : nodeD (row : Int) (s : Int) t = pt (nodeR row s t) s := node_nat row s t
  have n1 : nodeD (row : Int) ((s : Int) + 1) t = pt (nodeR row (s + 1) t) ((s + 1 : Nat) : Int) := node_nat row (s + 1) t
  have n2 : nodeD (row : Int) ((s : Int) + 2) t = pt (nodeR row (s + 2) t) ((s + 2 : Nat) : Int) := node_nat row (s + 2) t
  refine hN (hN (hN ⟨le3, ?_⟩))
  rw [n0, n1, n2]
  have fin : ∀ (add : List Wsh) (least : Int) (p5 : Addr), G p5 = none → add = kLine t row s w → rdAdd (.ref q) (.ref p5) (gup G p5 (.lst (add.map wD))) fun d G1 => qgName 4 d [some (.int t), some (.tup ws), some stD, some (.int row), some (.ref q), some (.int s), some w, some (pt (nodeR row s t) s), some (pt (nodeR row (s + 1) t) ((s + 1 : Nat) : Int)), some (pt (nodeR row (s + 2) t) ((s + 2 : Nat) : Int)), some (.int least), v11] G1 E.nx := by
    intro add least p5 hp5 ea
    have hl := kLine_len t row s w
    refine ⟨_, _, by rw [gup_ne (gne_none gq hp5)]; exact gq, gup_same, by rw [List.length_map, List.length_map, ea, sizeLine_eq]; omega, fun p6 hp6 => ?_⟩
    exact k p6 _ _ _ _ _ ((GSame.new hp5).free hp6) ((GSame.new hp5).trans (.new hp6)) (by rw [gup_same, ← List.map_append, ea])
  have tupc : ∀ i j : Int, w = .tup [.int i, .int j] → rd__law_far_ring_2 sS sN E [some (.int t), some (.tup ws), some stD, some (.int row), some (.ref q), some (.int s), some w, some (pt (nodeR row s t) s), some (pt (nodeR row (s + 1) t) ((s + 1 : Nat) : Int)), some (pt (nodeR row (s + 2) t) ((s + 2 : Nat) : Int)), v10, v11] G := by
    rintro i j rfl
    have hs : [i, j].sum = i + j := by simp
    have ek : [⟨nodeR row s t, s, nodeR row (s + 2) t, s + 2, 0 - (i + j)⟩] = kLine t row s (.tup [.int i, .int j]) := (if_pos (.inr rfl)).symm
    refine Br.t' ⟨[i, j], rfl, ?_⟩
    show rd__law_far_ring_1 sS sN E [some (.int t), some (.tup ws), some stD, some (.int row), some (.ref q), some (.int s), some (.tup [.int i, .int j]), some (pt (nodeR row s t) s), some (pt (nodeR row (s + 1) t) ((s + 1 : Nat) : Int)), some (pt (nodeR row (s + 2) t) ((s + 2 : Nat) : Int)), some (.int [i, j].sum), v11] G
    rw [hs]
    refine ⟨fun _ => Br.t' ⟨le3, (by show 1 ≤ 1000; decide), fun p5 hp5 => fin _ _ p5 hp5 ek⟩, fun _ => Br.t' ⟨le3, (by show 1 ≤ 1000; decide), fun p5 hp5 => fin _ _ p5 hp5 ek⟩⟩
  have two : (w = .non ∨ w = .int 0) → [⟨nodeR row s t, s, nodeR row (s + 1) t, s + 1, 0⟩, ⟨nodeR row (s + 1) t, s + 1, nodeR row (s + 2) t, s + 2, 0⟩] = kLine t row s w := by
    rintro (rfl | rfl) <;> exact (if_neg (by simp [lst, isT])).symm
  have one : w = .int 1 → [⟨nodeR row s t, s, nodeR row (s + 2) t, s + 2, 0 - 1⟩] = kLine t row s w := by
    rintro rfl
    exact (if_pos (.inl (by decide))).symm
  unfold wishOk at hw
  simp only [List.mem_cons, List.not_mem_nil, or_false] at hw
  rcases hw with rfl | rfl | rfl | rfl | rfl | rfl
  · exact Br.f' ⟨rfl, Br.f' (Br.f' (Br.f' ⟨le3, le3, le2, fun p5 hp5 => fin _ _ p5 hp5 (two (.inl rfl))⟩))⟩
  · exact Br.f' ⟨rfl, Br.f' (Br.f' (Br.f' ⟨le3, le3, le2, fun p5 hp5 => fin _ _ p5 hp5 (two (.inr rfl))⟩))⟩
  · exact Br.f' ⟨rfl, Br.t' (Br.t' (Br.t' ⟨le3, (by show 1 ≤ 1000; decide), fun p5 hp5 => fin _ _ p5 hp5 (one rfl)⟩))⟩
  · exact tupc 0 0 rfl
  · exact tupc 0 1 rfl
  · exact tupc 1 1 rfl
end
def FarRingOk (s : Spd) : Prop := ∀ {t row : Nat} {ws : List D} {st : List Int} {G : Gp} {Q : KD}, 3 ≤ t → t ≤ 16 → row % 2 = 0 → 2 ≤ row → row < 1000000 → ws.length = t / 2 → (∀ w ∈ ws, wishOk w) → st.length = t →
  (∀ G', GSame G G' → Q (lineD (theLine t row ws st)) G') → s [.int t, .tup ws, .tup (st.map .int), .int row] G Q
theorem far_ring_ok {sS sN : Spd} (hS : SpotsOk sS) (hN : NodeOk sN) : FarRingOk (spB 12 4 (rd__law_far_ring sS sN)) := by
  intro t row ws st G Q ht ht2 he hr hr2 hws hw hst k
  have lup : ∀ i, (upLine t row ws i).length ≤ 2 * i := flat_len _ 2 fun j => kLine_len _ _ _ _
  refine ⟨rfl, (by decide), fun p0 hp0 => hS (by omega) ht2 hr2 fun ps G1 hps s1 g1 => ⟨spotsD t row, ws, g1, rfl, ?_⟩⟩
  have lz : (zipD (spotsD t row) ws).length = ws.length := by
    rw [zipD_len]; unfold spotsD; rw [List.length_map, spots_len, hws]; omega
  refine ⟨fun i ρ G' => ∃ q w5 w6 w7 w8 w9 w10, ρ = [some (.int t), some (.tup ws), some (.tup (st.map .int)), some (.int row), some (.ref q), w5, w6, w7, w8, w9, w10, none] ∧ G q = none ∧ GSame G1 G' ∧ G' q = some (.lst ((upLine t row ws i).map wD)),
    ⟨p0, none, none, none, none, none, none, rfl, hp0, .refl _, s1 _ _ gup_same⟩, ?_, ?_, ?_⟩
  · rintro i ρ G' ⟨_, _, _, _, _, _, _, rfl, _, s2, _⟩ _
    exact ⟨s2 _ _ g1, trivial⟩
  · rintro i d ρ G2 ed ⟨q, w5, w6, w7, w8, w9, w10, rfl, hq, s2, g2⟩
    obtain ⟨sD, w, rfl, e1, e2⟩ := zipD_get ed
    have hi := (List.getElem?_eq_some_iff.mp e2).1
    have es : sD = .int ((2 * i : Nat) : Int) := by
      unfold spotsD spots at e1
      rw [List.getElem?_map, List.getElem?_map, List.getElem?_range (by omega)] at e1
      have e1 := Option.some.inj e1
      rw [← e1]
      show D.int (((row % 2 + 2 * i : Nat) : Int)) = _
      rw [he, Nat.zero_add]
    subst es
    have hlu := lup i
    refine ⟨rfl, ring_turn hN (hw w (List.mem_of_getElem? e2)) g2 (by omega) fun q' u7 u8 u9 u10 G3 hq' s3 g3 => ?_⟩
    have ew : ws.getD i .non = w := by rw [List.getD_eq_getElem?_getD, e2]; rfl
    refine ⟨q', _, _, _, _, _, _, rfl, ?_, s2.trans s3, ?_⟩
    · exact (GSame.new hp0).free (s1.free (s2.free hq'))
    · unfold upLine
      rw [fm_take, ew]
      exact g3
  · rintro ρ G2 ⟨q, w5, w6, w7, w8, w9, w10, rfl, hq, s2, g2⟩
    rw [lz] at g2
    have hlu := lup ws.length
    have s0 : GSame G G2 := ((GSame.new hp0).trans s1).trans s2
    clear s2
    -- back along the start
    have back : ∀ (G3 : Gp) (base : List Wsh), GSame G G3 → base.length ≤ 100 → G3 q = some (.lst (base.map wD)) → base = upLine t row ws ws.length ++ oddLine t row →
        rd__law_far_ring_5 sS sN (endsD Q) [some (.int t), some (.tup ws), some (.tup (st.map .int)), some (.int row), some (.ref q), w5, w6, w7, w8, w9, w10, none] G3 := by
      intro G3 base s3 hb g3 eb
      have rg : RgC ((t : Int) - 1) (-1) (-1) t := by
        have := RgC.neg (i := (t : Int) - 1) (j := -1) (by omega) (by omega) (by omega) (by omega)
        rwa [show ((t : Int) - 1 - -1).toNat = t by omega] at this
      refine ⟨t, rg, fun i ρ G' => ∃ w11, ρ = [some (.int t), some (.tup ws), some (.tup (st.map .int)), some (.int row), some (.ref q), w5, w6, w7, w8, w9, w10, w11] ∧ GSame G G' ∧ G' q = some (.lst ((base ++ (List.range i).map (downP st t)).map wD)),
        ⟨none, rfl, s3, by simpa using g3⟩, fun _ _ _ _ _ => trivial, ?_, ?_⟩
      · rintro i d ρ G4 ed ⟨w11, rfl, s4, g4⟩
        obtain ⟨rfl, hi⟩ := rangeD_get ed
        have ei : (t : Int) - 1 + (i : Nat) * (-1) = ((t - 1 - i : Nat) : Int) := by omega
        rw [ei]
        have hp : t - 1 - i < st.length := by omega
        refine ⟨⟨_, g4⟩, le2, le2, _, int_at (List.getElem?_eq_getElem hp), le3, _, g4, ?_, _, rfl, ?_, ?_⟩
        · rw [List.length_map, List.length_append, List.length_map, List.length_range, sizeLine_eq]; omega
        · intro x o ex
          rw [gup_ne (gne_none ex hq)]
          exact s4 x o ex
        · have eg : st.getD (t - 1 - i) 0 = st[t - 1 - i] := by rw [List.getD_eq_getElem?_getD, List.getElem?_eq_getElem hp]; rfl
          have ew : wD (downP st t i) = .tup [.tup [.int 0, .int (((t - 1 - i : Nat) : Int) + 1)], .tup [.int 0, .int ((t - 1 - i : Nat) : Int)], .int st[t - 1 - i]] := by
            unfold downP wD
            simp only
            rw [eg]; rfl
          rw [gup_same, List.range_succ, List.map_append (l₂ := [i]), ← List.append_assoc, List.map_append (l₂ := [i].map (downP st t)), ← ew]; rfl
      · rintro ρ G4 ⟨w11, rfl, s4, g4⟩
        rw [rangeD_len] at g4
        refine ⟨_, g4, ?_⟩
        have := k G4 s4
        unfold lineD theLine at this
        rw [← eb] at this
        exact this
    refine ⟨(show (0 : Int) < 2 by decide), rfl, fun h => ?_, fun h => ?_⟩
    · have h : (t : Int) % 2 = 1 := beq0.mp h
      have en : nodeD (row : Int) ((t : Int) - 1) t = pt (nodeR row (t - 1) t) ((t - 1 : Nat) : Int) := by
        rw [show (t : Int) - 1 = ((t - 1 : Nat) : Int) by omega]; exact node_nat row (t - 1) t
      refine ⟨⟨_, g2⟩, hN ⟨le2, le3, _, g2, by rw [List.length_map, sizeLine_eq]; omega, ?_⟩⟩
      have eo : oddLine t row = [⟨nodeR row (t - 1) t, t - 1, 0, t, 0⟩] := if_pos (by omega)
      refine back _ (upLine t row ws ws.length ++ oddLine t row) ?_ (by rw [List.length_append, eo]; simp; omega) ?_ rfl
      · intro x o ex
        rw [gup_ne (gne_none ex hq)]
        exact s0 x o ex
      · rw [gup_same, en, List.map_append, eo]; rfl
    · have h : ¬ (t : Int) % 2 = 1 := neb h
      have eo : oddLine t row = [] := if_neg (by omega)
      exact back G2 (upLine t row ws ws.length) s0 (by omega) g2 (by rw [eo, List.append_nil])
end K59
end
section
set_option Elab.async false
set_option linter.all false
set_option maxRecDepth 100000
set_option maxHeartbeats 4000000
namespace K59
open PySem PySem.Spec PyProof.Rows L2 TL
section
variable {t row : Nat} {ws : List D} {st : List Int}
theorem line_mem {w : Wsh} (h : w ∈ theLine t row ws st) : (∃ j, j < ws.length ∧ w ∈ kLine t row (2 * j) (ws.getD j .non)) ∨ (t % 2 = 1 ∧ w = ⟨nodeR row (t - 1) t, t - 1, 0, t, 0⟩) ∨ ∃ k, k < t ∧ w = downP st t k := by
  unfold theLine at h
  rw [List.mem_append, List.mem_append] at h
  rcases h with (h | h) | h
  · unfold upLine at h
    obtain ⟨j, hj, h⟩ := List.mem_flatMap.mp h
    exact .inl ⟨j, List.mem_range.mp hj, h⟩
  · unfold oddLine at h
    by_cases e : t % 2 = 1
    · rw [if_pos e] at h
      exact .inr (.inl ⟨e, by simpa using h⟩)
    · rw [if_neg e] at h; cases h
  · obtain ⟨k, hk, rfl⟩ := List.mem_map.mp h
    exact .inr (.inr ⟨k, List.mem_range.mp hk, rfl⟩)
theorem kLine_mem {s : Nat} {d : D} {w : Wsh} (h : w ∈ kLine t row s d) : (w = ⟨nodeR row s t, s, nodeR row (s + 2) t, s + 2, 0 - lst d⟩ ∧ (0 < lst d ∨ isT d = true)) ∨ w = ⟨nodeR row s t, s, nodeR row (s + 1) t, s + 1, 0⟩ ∨ w = ⟨nodeR row (s + 1) t, s + 1, nodeR row (s + 2) t, s + 2, 0⟩ := by
  unfold kLine at h
  by_cases e : 0 < lst d ∨ isT d = true
  · rw [if_pos e] at h
    exact .inl ⟨by simpa using h, e⟩
  · rw [if_neg e] at h
    simp at h
    exact .inr h
theorem nodeR_top (row t : Nat) : nodeR row t t = 0 := nodeR_pole (.inr rfl)
theorem line_nice (ht : 3 ≤ t) (he : row % 2 = 0) (hws : ws.length = t / 2) : ∀ w ∈ theLine t row ws st, Nice t row w.x0 w.x1 w.y0 w.y1 := by
  intro w hw
  rcases line_mem hw with ⟨j, hj, h⟩ | ⟨ho, rfl⟩ | ⟨k, hk, rfl⟩
  · rcases kLine_mem h with ⟨rfl, _⟩ | rfl | rfl
    · exact .knot (2 * j) (by omega) (by omega)
    · exact .step (2 * j) (by omega)
    · exact .step (2 * j + 1) (by omega)
  · have := Nice.step (t := t) (row := row) (t - 1) (by omega)
    rw [show t - 1 + 1 = t by omega, nodeR_top] at this
    exact this
  · exact .start (t - 1 - k) (by omega)
theorem up_path (ht : 3 ≤ t) : ∀ i, IsPath (0, 0) (upLine t row ws i) (nodeR row (2 * i) t, 2 * i)
  | 0 => by
    show (0, 0) = (nodeR row (2 * 0) t, 2 * 0)
    rw [show nodeR row (2 * 0) t = 0 from nodeR_pole (.inl rfl)]
  | i + 1 => by
    unfold upLine
    rw [fm_take]
    refine path_app (up_path ht i) ?_
    unfold kLine
    split
    · exact ⟨rfl, rfl⟩
    · exact ⟨rfl, rfl, rfl⟩
theorem down_path : ∀ i, i ≤ t → IsPath (0, t) ((List.range i).map (downP st t)) (0, t - i)
  | 0, _ => rfl
  | i + 1, h => by
    rw [List.range_succ, List.map_append]
    refine path_app (down_path i (by omega)) ?_
    show (0, t - 1 - i + 1) = (0, t - i) ∧ (0, t - 1 - i) = (0, t - (i + 1))
    exact ⟨by rw [show t - 1 - i + 1 = t - i by omega], by rw [show t - 1 - i = t - (i + 1) by omega]⟩
theorem line_chain (ht : 3 ≤ t) (hws : ws.length = t / 2) : Chain (theLine t row ws st) := by
  refine path_chain (a := (0, 0)) ?_
  unfold theLine
  have hd : IsPath (0, t) ((List.range t).map (downP st t)) (0, 0) := by have := down_path (st := st) t (Nat.le_refl t); rwa [Nat.sub_self] at this
  refine path_app (b := (0, t)) ?_ hd
  refine path_app (up_path ht ws.length) ?_
  unfold oddLine
  rw [hws]
  by_cases e : t % 2 = 1
  · rw [if_pos e, show 2 * (t / 2) = t - 1 by omega]
    exact ⟨rfl, rfl⟩
  · rw [if_neg e, show 2 * (t / 2) = t by omega, nodeR_top]; rfl
theorem line_len (ht : 3 ≤ t) (ht2 : t ≤ 16) (hws : ws.length = t / 2) : 3 ≤ (theLine t row ws st).length ∧ (theLine t row ws st).length ≤ 100 := by
  have lup : (upLine t row ws ws.length).length ≤ 2 * ws.length := flat_len _ 2 (fun j => kLine_len _ _ _ _) _
  have lo : (oddLine t row).length ≤ 1 := by unfold oddLine; split <;> simp
  unfold theLine
  rw [List.length_append, List.length_append, List.length_map, List.length_range]
  omega
theorem lst_bound {w : D} (h : wishOk w) : 0 ≤ lst w ∧ lst w ≤ 2 := by
  unfold wishOk at h
  simp only [List.mem_cons, List.not_mem_nil, or_false] at h
  rcases h with rfl | rfl | rfl | rfl | rfl | rfl <;> decide
theorem getD_ok {ws : List D} (hw : ∀ w ∈ ws, wishOk w) {j : Nat} (hj : j < ws.length) : wishOk (ws.getD j .non) := by
  rw [List.getD_eq_getElem?_getD, List.getElem?_eq_getElem hj]
  exact hw _ (List.getElem_mem hj)
theorem line_small (ht : 3 ≤ t) (ht2 : t ≤ 16) (hr : row ≤ 900000) (hws : ws.length = t / 2) (hw : ∀ w ∈ ws, wishOk w) (hst : st.length = t) (h01 : ∀ z ∈ st, z = 0 ∨ z = 1) : ∀ w ∈ theLine t row ws st, (w.x0 ≤ 900000 ∧ w.x1 ≤ 100 ∧ w.y0 ≤ 900000 ∧ w.y1 ≤ 100 ∧ -3 ≤ w.n ∧ w.n ≤ 3) := by
  intro w hm
  rcases line_mem hm with ⟨j, hj, h⟩ | ⟨ho, rfl⟩ | ⟨k, hk, rfl⟩
  · have l0 := nodeR_le row (2 * j) t
    have l1 := nodeR_le row (2 * j + 1) t
    have l2 := nodeR_le row (2 * j + 2) t
    rcases kLine_mem h with ⟨rfl, _⟩ | rfl | rfl
    · have := lst_bound (getD_ok hw hj)
      simp only
      omega
    · simp only; omega
    · simp only
      rw [show 2 * j + 1 + 1 = 2 * j + 2 by omega] at *
      omega
  · have := nodeR_le row (t - 1) t
    simp only; omega
  · have : st.getD (t - 1 - k) 0 = 0 ∨ st.getD (t - 1 - k) 0 = 1 := by
      rw [List.getD_eq_getElem?_getD, List.getElem?_eq_getElem (by omega)]
      exact h01 _ (List.getElem_mem _)
    unfold downP
    simp only; omega
theorem kLine_sum {s : Nat} {d : D} (h : wishOk d) : ((kLine t row s d).map fun w : Wsh => w.n).sum = 0 - lst d := by
  have := lst_bound h
  unfold kLine
  by_cases e : 0 < lst d ∨ isT d = true
  · rw [if_pos e]; simp
  · rw [if_neg e]
    simp; omega
theorem up_sum (hw : ∀ w ∈ ws, wishOk w) : ∀ i, i ≤ ws.length → ((upLine t row ws i).map fun w : Wsh => w.n).sum = 0 - ((ws.take i).map lst).sum
  | 0, _ => by simp [upLine]
  | i + 1, h => by
    have hi : i < ws.length := by omega
    unfold upLine
    rw [fm_take, List.map_append, List.sum_append]
    have ih := up_sum hw i (by omega)
    unfold upLine at ih
    rw [ih, kLine_sum (getD_ok hw hi), List.take_add_one, List.getElem?_eq_getElem hi, List.map_append, List.sum_append]
    have eg : ws.getD i .non = ws[i] := by rw [List.getD_eq_getElem?_getD, List.getElem?_eq_getElem hi]; rfl
    rw [eg]
    simp; omega
theorem down_sum (hst : st.length = t) : (((List.range t).map (downP st t)).map fun w : Wsh => w.n).sum = st.sum := by
  have e : ((List.range t).map (downP st t)).map (fun w : Wsh => w.n) = st.reverse := by
    rw [List.map_map]
    apply List.ext_getElem
    · simp [hst]
    · intro i h1 h2
      have hi : i < t := by simpa using h1
      rw [List.getElem_map, List.getElem_range, List.getElem_reverse]
      show st.getD (t - 1 - i) 0 = _
      rw [List.getD_eq_getElem?_getD, List.getElem?_eq_getElem (by omega)]
      show st[t - 1 - i] = _
      congr 1
      omega
  rw [e, List.sum_reverse]
theorem line_sum (hw : ∀ w ∈ ws, wishOk w) (hst : st.length = t) : ((theLine t row ws st).map fun w : Wsh => w.n).sum = st.sum - (ws.map lst).sum := by
  unfold theLine
  rw [List.map_append, List.map_append, List.sum_append, List.sum_append, up_sum hw _ (Nat.le_refl _), List.take_length, down_sum hst]
  have : ((oddLine t row).map fun w : Wsh => w.n).sum = 0 := by
    unfold oddLine
    split <;> rfl
  omega
theorem kv_lst {w : D} (h : wishOk w) (e : 0 < lst w ∨ isT w = true) {n : Int} : n ∈ kv w ↔ n = 0 - lst w := by
  unfold wishOk at h
  simp only [List.mem_cons, List.not_mem_nil, or_false] at h
  rcases h with rfl | rfl | rfl | rfl | rfl | rfl
  · exact absurd e (by decide)
  · exact absurd e (by decide)
  · simp [kv, lst]
  · simp [kv, lst]
  · simp [kv, lst]
  · simp [kv, lst]
/-- the numbers of the ring stand, where its row does -/
theorem line_num {many : Nat} {rows : List D} (ht : 3 ≤ t) (hst : st.length = t) (h01 : ∀ z ∈ st, z = 0 ∨ z = 1) (hge : rows.length % 2 = 0) (hr : 2 ≤ row) (he : row % 2 = 0) (hlt : row < rows.length * many) (hws : ws.length = t / 2) (hw : ∀ w ∈ ws, wishOk w)
    (hat : rowAt rows row = ws) : ∀ w ∈ theLine t row ws st, NumIs t rows st many w := by
  intro w hm
  rw [numIs_iff ht hst]
  have hstep : ∀ c, c < t → EdgeM t rows st (rows.length * many) (pt (nodeR row c t) c) (pt (nodeR row (c + 1) t) ((c + 1 : Nat) : Int)) 0 ∧ ∀ m, EdgeM t rows st (rows.length * many) (pt (nodeR row c t) c) (pt (nodeR row (c + 1) t) ((c + 1 : Nat) : Int)) m → 0 ≤ m := by
    intro c hc
    refine ⟨(step_edge ht hr he (even_mul hge).1 hc).mpr ⟨rfl, by omega⟩, fun m h => ?_⟩
    have := ((step_edge ht hr he (even_mul hge).1 hc).mp h).1; omega
  rcases line_mem hm with ⟨j, hj, h⟩ | ⟨ho, rfl⟩ | ⟨k, hk, rfl⟩
  · rcases kLine_mem h with ⟨rfl, hc⟩ | rfl | rfl
    · have hkv : ∀ n, KV t rows row (2 * j) n ↔ n = 0 - lst (ws.getD j .non) := by
        intro n
        have hgj : ws[j]? = some (ws.getD j .non) := by rw [List.getD_eq_getElem?_getD, List.getElem?_eq_getElem hj]; rfl
        have hsp : ∀ j', j' < t / 2 → (spots t row)[j']? = some (2 * j') := by
          intro j' hj'
          unfold spots
          rw [List.getElem?_map, List.getElem?_range (by omega)]
          show some (row % 2 + 2 * j') = _
          rw [he, Nat.zero_add]
        constructor
        · rintro ⟨w', ⟨j', e1, e2⟩, hn⟩
          rw [hat] at e2
          have hj' := (List.getElem?_eq_some_iff.mp e2).1
          rw [hsp j' (by omega)] at e1
          have : j' = j := by have := Option.some.inj e1; omega
          subst this
          rw [hgj] at e2
          cases e2
          exact (kv_lst (getD_ok hw hj) hc).mp hn
        · rintro rfl
          exact ⟨_, ⟨j, hsp j (by omega), by rw [hat]; exact hgj⟩, (kv_lst (getD_ok hw hj) hc).mpr rfl⟩
      have ke : ∀ n, EdgeM t rows st (rows.length * many) (pt (nodeR row (2 * j) t) ((2 * j : Nat) : Int)) (pt (nodeR row (2 * j + 2) t) ((2 * j + 2 : Nat) : Int)) n ↔ row < rows.length * many ∧ KV t rows row (2 * j) n := fun n => knot_edge ht (by omega) (by omega) (by omega)
      refine ⟨(ke _).mpr ⟨hlt, (hkv _).mpr rfl⟩, fun m h => ?_⟩
      have := (hkv _).mp ((ke _).mp h).2
      rw [this]; exact Int.le_refl _
    · exact hstep (2 * j) (by omega)
    · exact hstep (2 * j + 1) (by omega)
  · have := hstep (t - 1) (by omega)
    rw [show t - 1 + 1 = t by omega, nodeR_top] at this
    exact this
  · have hp : t - 1 - k < t := by omega
    have se : ∀ n, EdgeM t rows st (rows.length * many) (pt 0 ((t - 1 - k + 1 : Nat) : Int)) (pt 0 ((t - 1 - k : Nat) : Int)) n ↔ n = 1 ∨ (n = 0 ∧ st[t - 1 - k]? = some 0) := fun n => start_edge hp hst
    have eg : st[t - 1 - k]? = some (st.getD (t - 1 - k) 0) := by rw [List.getD_eq_getElem?_getD, List.getElem?_eq_getElem (by omega)]; rfl
    have hz := h01 _ (List.mem_of_getElem? eg)
    refine ⟨(se _).mpr ?_, fun m h => ?_⟩
    · rcases hz with z | z
      · exact .inr ⟨z, by rw [eg, z]⟩
      · exact .inl z
    · show st.getD (t - 1 - k) 0 ≤ m
      rcases (se m).mp h with h | ⟨h, h'⟩
      · omega
      · rw [eg] at h'
        have := Option.some.inj h'
        omega
end
end K59
end
section
set_option Elab.async false
set_option linter.all false
set_option maxRecDepth 100000
set_option maxHeartbeats 4000000
namespace K59
open PySem PySem.Spec PyProof.Rows L2 TL
/-! ### one thing is judged -/
def thD (q : Nat × List Wsh) : D := .tup [.str "never", .int q.1, lineD q.2]
def Fair (t : Nat) (rows : List D) (st : List Int) (q : Nat × List Wsh) : Prop := q.1 ≤ 10000 ∧ q.2.length ≤ 1000 ∧ (∀ w ∈ q.2, Small w) ∧ (IsFar t rows st q.1 q.2 ↔ NeverP t rows st q.1 q.2)
structure Ground (t : Nat) (rows : List D) (st : List Int) : Prop where
  t3 : 3 ≤ t
  t16 : t ≤ 16
  rok : RowsOk t rows
  g2 : 2 ≤ rows.length
  g60 : rows.length ≤ 60
  ge : rows.length % 2 = 0
  sl : st.length = t
  b01 : ∀ z ∈ st, z = 0 ∨ z = 1
abbrev lw (u0 u1 u2 : Option D) (t : D) (u4 : Option D) (rows : D) (u6 u7 : Option D) (far : D) (ws least pl st mo row line th : Option D) (u17 u18 u19 u20 u21 u22 u23 u24 : Option D) : Sd :=
  [u0, u1, u2, some t, u4, some rows, u6, u7, some far, ws, least, pl, st, mo, row, line, th, u17, u18, u19, u20, u21, u22, u23, u24]
section
variable {C : Addr} {sB sT sW sP sS sR sF sY sL : Spd} (hF : FarOk sF) (hY : SaysOk sY) (hL : PaperOk C sL)
variable {t : Nat} {rows : List D} {st : List Int} {E : EndsD} {G : Gp} {u0 u1 u2 u4 u6 u7 ws least pl row line th u17 u18 u19 u20 u21 u23 u24 : Option D} {far : D}
include hF hY hL in
theorem judge_ok (gr : Ground t rows st) {q : Nat × List Wsh} (hq : Fair t rows st q)
    (k : ∀ u23 G', GSame G G' → E.nx (lw u0 u1 u2 (.int t) u4 (.tup rows) u6 u7 far ws least pl (some (.tup (st.map .int))) (some (motifD t rows)) row line th u17 u18 u19 u20 u21 (some (thD q)) u23 u24) G') :
    rd_law_2 C sB sT sW sP sS sR sF sY sL E (lw u0 u1 u2 (.int t) u4 (.tup rows) u6 u7 far ws least pl (some (.tup (st.map .int))) (some (motifD t rows)) row line th u17 u18 u19 u20 u21 (some (thD q)) u23 u24) G := by
  obtain ⟨h1, h2, h3, h4⟩ := hq
  have fin : ∀ b G1, GSame G G1 → (b = true ↔ IsFar t rows st q.1 q.2) → rd_law_1 C sB sT sW sP sS sR sF sY sL E (lw u0 u1 u2 (.int t) u4 (.tup rows) u6 u7 far ws least pl (some (.tup (st.map .int))) (some (motifD t rows)) row line th u17 u18 u19 u20 u21 (some (thD q)) (some (.bl b)) u24) G1 := by
    intro b G1 s1 hb
    refine hL (by have := gr.t3; omega) gr.t16 gr.rok (by have := gr.g2; omega) gr.g60 gr.ge gr.sl gr.b01 h1 h2 h3 fun b' G2 s2 hb' => hY ?_
    have e : b' = b := by
      have : b' = true ↔ b = true := hb'.trans (h4.symm.trans hb.symm)
      cases b <;> cases b' <;> simp_all
    subst e
    show Br (!(b' == b')) _ _
    rw [show (!(b' == b')) = false by cases b' <;> rfl]
    exact Br.f' (k _ G2 (s1.trans s2))
  refine ⟨fun _ => ?_, fun h => ?_⟩
  · exact hF (by have := gr.t3; omega) gr.t16 gr.rok (by have := gr.g2; omega) gr.g60 gr.sl h2 h3 fun b G1 s1 hb => fin b G1 s1 hb
  · refine fin false G (.refl _) ⟨fun z => (nomatch z), fun z => ?_⟩
    have h : ¬ (0 : Int) < (q.1 : Int) := of_decide_eq_false h
    have := z.1.1
    omega
include hF hY hL in
/-- all things are judged, then the first again -/
theorem things_ok (gr : Ground t rows st) {items : List (Nat × List Wsh)} {p pq : Addr} {q0 : Nat × List Wsh} {places : List Int} {ln : Int} (h0 : items[0]? = some q0) (hi : ∀ q ∈ items, Fair t rows st q)
    (gp : G p = some (.lst (items.map thD))) (gq : G pq = some (.lst (places.map .int))) (hln : IsFar t rows st q0.1 q0.2 ↔ (places.length : Int) < ln)
    (k : ∀ u22 u23 G', GSame G G' → E.nx (lw u0 u1 u2 (.int t) u4 (.tup rows) u6 u7 far ws (some (.int ln)) (some (.ref pq)) (some (.tup (st.map .int))) (some (motifD t rows)) row line (some (.ref p)) u17 u18 u19 u20 u21 u22 u23 u24) G') {u22 : Option D} :
    rd_law_4 C sB sT sW sP sS sR sF sY sL E (lw u0 u1 u2 (.int t) u4 (.tup rows) u6 u7 far ws (some (.int ln)) (some (.ref pq)) (some (.tup (st.map .int))) (some (motifD t rows)) row line (some (.ref p)) u17 u18 u19 u20 u21 u22 u23 u24) G := by
  refine ⟨_, gp, fun i ρ G' => (∃ u22 u23, ρ = lw u0 u1 u2 (.int t) u4 (.tup rows) u6 u7 far ws (some (.int ln)) (some (.ref pq)) (some (.tup (st.map .int))) (some (motifD t rows)) row line (some (.ref p)) u17 u18 u19 u20 u21 u22 u23 u24) ∧ GSame G G',
    ⟨⟨_, _, rfl⟩, .refl _⟩, fun i ρ G' h _ => ⟨h.2 _ _ gp, trivial⟩, ?_, ?_⟩
  · rintro i d ρ G1 ed ⟨⟨v22, v23, rfl⟩, s1⟩
    rw [List.getElem?_map] at ed
    obtain ⟨q, eq, rfl⟩ := Option.map_eq_some_iff.mp ed
    exact judge_ok hF hY hL gr (hi q (List.mem_of_getElem? eq)) fun u23 G2 s2 => ⟨⟨_, _, rfl⟩, s1.trans s2⟩
  · rintro ρ G1 ⟨⟨v22, v23, rfl⟩, s1⟩
    obtain ⟨h1, h2, h3, h4⟩ := hi q0 (List.mem_of_getElem? h0)
    refine ⟨_, thD q0, s1 _ _ gp, by rw [nth_eq, List.getElem?_map, h0]; rfl, ?_⟩
    refine hF (by have := gr.t3; omega) gr.t16 gr.rok (by have := gr.g2; omega) gr.g60 gr.sl h2 h3 fun b G2 s2 hb => ⟨_, s2 _ _ (s1 _ _ gq), rfl, ?_⟩
    have e : b = decide (((places.map D.int).length : Int) < ln) := by
      rw [List.length_map]
      cases b with
      | true => exact (decide_eq_true (hln.mp (hb.mp rfl))).symm
      | false => exact (decide_eq_false fun z => by have := hb.mpr (hln.mpr z); cases this).symm
    show Br (!(b == decide (((places.map D.int).length : Int) < ln))) _ _
    rw [← e, show (!(b == b)) = false by cases b <;> rfl]
    exact Br.f' (k _ _ G2 (s1.trans s2))
end
end K59
end
section
set_option Elab.async false
set_option linter.all false
set_option maxRecDepth 100000
set_option maxHeartbeats 4000000
namespace K59
open PySem PySem.Spec PyProof.Rows L2 TL
/-! ### the things -/
def sixI (far : Nat) (L : List Wsh) : List (Nat × List Wsh) := [(far + 1, L), (far + 2, L), (far, L), (far + 4, L), (far + 1, rot L), (far + 1, L ++ L)]
def sixD (far : Nat) (L : List Wsh) : List D := [thD (far + 1, L), thD (far + 2, L), thD (far, L), thD (far + 4, L), .tup [.str "never", .int ((far : Int) + 1), .tup (TL.cutD (L.map wD) (some 1) none ++ TL.cutD (L.map wD) none (some 1))], .tup [.str "never", .int ((far : Int) + 1), .tup (L.map wD ++ L.map wD)]]
theorem six_eq (far : Nat) (L : List Wsh) : sixD far L = (sixI far L).map thD := by
  unfold sixD sixI
  rw [← rot_map, ← List.map_append]; rfl
def wish4 (w : Wsh) : List Wsh := [{ w with n := w.n - 1 }, { w with n := w.n + 1 }, { w with x0 := w.x0 + 2 }, { w with y0 := w.y0 + 1 }]
theorem set_cut {L : List Wsh} {k : Nat} (h : k < L.length) (w' : Wsh) : .tup ((TL.cutD (L.map wD) none (some (k : Int)) ++ [wD w']) ++ TL.cutD (L.map wD) (some ((k : Int) + 1)) none) = lineD (L.set k w') := by
  have e : L.set k w' = L.take k ++ w' :: L.drop (k + 1) := by
    rw [List.set_eq_take_append_cons_drop, if_pos h]
  unfold lineD
  rw [e, cut_hi, show (k : Int) + 1 = ((k + 1 : Nat) : Int) from rfl, cut_lo, ← List.map_take, ← List.map_drop, List.map_append, List.map_cons, List.append_assoc]; rfl
theorem fair_nice {t row : Nat} {rows : List D} {st : List Int} (gr : Ground t rows st) (hr : 2 ≤ row) (he : row % 2 = 0) {q : Nat × List Wsh} (h1 : q.1 ≤ 10000) (h2 : q.2.length ≤ 1000) (h3 : ∀ w ∈ q.2, Small w) (hn : ∀ w ∈ q.2, Nice t row w.x0 w.x1 w.y0 w.y1) : Fair t rows st q :=
  ⟨h1, h2, h3, ring_iff gr.t3 gr.sl gr.g2 gr.ge hr he hn⟩
theorem rot_mem {l : List Wsh} {w : Wsh} (h : w ∈ rot l) : w ∈ l := by
  unfold rot at h
  rcases List.mem_append.mp h with h | h
  · exact List.mem_of_mem_drop h
  · exact List.mem_of_mem_take h
theorem rot_len (l : List Wsh) : (rot l).length ≤ l.length := by
  unfold rot
  rw [List.length_append, List.length_drop, List.length_take]; omega
theorem mem_set {l : List Wsh} {k : Nat} {w x : Wsh} (h : x ∈ l.set k w) : x ∈ l ∨ x = w := List.mem_or_eq_of_mem_set h
section
variable {C : Addr} {sB sT sW sP sS sR sF sY sL : Spd} (hT : TakeOk sT) (hF : FarOk sF) (hY : SaysOk sY) (hL : PaperOk C sL)
variable {t row n far : Nat} {rows ws : List D} {st : List Int} {E : EndsD} {G : Gp} {a w c pq : Addr} {places : List Int} {ln : Int} {u0 u2 u4 u6 u7 u9 u14 u16 u17 u18 u19 u20 u21 u22 u23 u24 : Option D}
include hT hF hY hL in
theorem build_ok (gr : Ground t rows st) (hr : 2 ≤ row) (he : row % 2 = 0) (hr2 : row ≤ 800000) (hf : far ≤ 9000) (hws : ws.length = t / 2) (hw : ∀ w ∈ ws, wishOk w) (hlt : row < rows.length * (far + 1)) (hat : rowAt rows row = ws)
    (gq : G pq = some (.lst (places.map .int))) (npa : pq ≠ a) (npw : pq ≠ w) (dr : Dr a w c n G) (hn : n ≤ 900000000) (hln : ln = (ws.map lst).sum) (hpl : (places.length : Int) = st.sum)
    (k : ∀ v16 v17 v18 v19 v20 v21 v22 v23 G', Dr a w c (n + 1) G' → Fr a w G G' → E.nx (lw u0 (some (.ref a)) u2 (.int t) u4 (.tup rows) u6 u7 (.int far) u9 (some (.int ln)) (some (.ref pq)) (some (.tup (st.map .int))) (some (motifD t rows)) u14 (some (lineD (theLine t row ws st))) v16 v17 v18 v19 v20 v21 v22 v23 u24) G') :
    rd_law_8 C sB sT sW sP sS sR sF sY sL E (lw u0 (some (.ref a)) u2 (.int t) u4 (.tup rows) u6 u7 (.int far) u9 (some (.int ln)) (some (.ref pq)) (some (.tup (st.map .int))) (some (motifD t rows)) u14 (some (lineD (theLine t row ws st))) u16 u17 u18 u19 u20 u21 u22 u23 u24) G := by
  have hlen := line_len (row := row) (st := st) gr.t3 gr.t16 hws
  have hnice := line_nice (st := st) gr.t3 he hws
  have hch := line_chain (row := row) (st := st) gr.t3 hws
  have hsm := line_small gr.t3 gr.t16 (by omega : row ≤ 900000) hws hw gr.sl gr.b01
  have hsum := line_sum (row := row) hw gr.sl
  have hnum := line_num (many := far + 1) gr.t3 gr.sl gr.b01 gr.ge hr he hlt hws hw hat
  generalize theLine t row ws st = L at hlen hnice hch hsm hsum hnum k ⊢
  have lmap : (L.map wD).length = L.length := List.length_map _
  have hsmall : ∀ w ∈ L, Small w := fun w hw => by
    obtain ⟨a1, a2, a3, a4, a5, a6⟩ := hsm w hw
    exact ⟨by omega, by omega, by omega, by omega, by omega, by omega⟩
  have hrl := rot_len L
  refine ⟨le3, le3, le3, le3, (by
      show (TL.cutD (L.map wD) (some 1) none).length + (TL.cutD (L.map wD) none (some 1)).length ≤ sizeLine
      rw [← List.length_append, ← rot_map, List.length_map, sizeLine_eq]; omega), le3, (by
      show (L.map wD).length + (L.map wD).length ≤ sizeLine
      rw [lmap, sizeLine_eq]; omega), le3, (by show 6 ≤ 1000; decide), fun p hp => ?_⟩
  show rd_law_7 C sB sT sW sP sS sR sF sY sL E (lw u0 (some (.ref a)) u2 (.int t) u4 (.tup rows) u6 u7 (.int far) u9 (some (.int ln)) (some (.ref pq)) (some (.tup (st.map .int))) (some (motifD t rows)) u14 (some (lineD L)) (some (.ref p)) u17 u18 u19 u20 u21 u22 u23 u24) (gup G p (.lst (sixD far L)))
  rw [six_eq]
  have op := dr.off hp
  have d1 := dr.new (o := .lst ((sixI far L).map thD)) hp
  refine hT d1 (by omega) (by show (0 : Int) < ((L.map wD).length : Int); omega) (by show ((L.map wD).length : Int) < 1000000; omega) fun z G1 z0 z1 d2 f2 => ?_
  obtain ⟨kk, rfl⟩ : ∃ kk : Nat, z = (kk : Int) := ⟨z.toNat, by omega⟩
  have hk : kk < L.length := by rw [lmap] at z1; omega
  have g1 := f2 _ _ op.1 op.2.1 gup_same
  have npp : pq ≠ p := gne_none gq hp
  have gq1 := f2 _ _ npa npw (by rw [gup_ne npp]; exact gq)
  have f1 : Fr a w G G1 := (Fr.same (.new hp)).trans f2
  have ek : L[kk]? = some L[kk] := List.getElem?_eq_getElem hk
  have hmem := List.mem_of_getElem? ek
  generalize L[kk] = wk at ek hmem
  refine ⟨wD wk, L2.atI_nat (by rw [List.getElem?_map, ek]; rfl), rfl, ?_⟩
  -- the four
  refine ⟨le3, le3, le2, le3, le2, le3, (by show 4 ≤ 1000; decide), fun p2 hp2 => ?_⟩
  have d3 := d2.new (o := .lst ((wish4 wk).map wD)) hp2
  have g12 : p ≠ p2 := gne_none g1 hp2
  have op2 := d2.off hp2
  refine ⟨(wish4 wk).map wD, gup_same, fun i ρ G' => (∃ v21, ρ = lw u0 (some (.ref a)) u2 (.int t) u4 (.tup rows) u6 u7 (.int far) u9 (some (.int ln)) (some (.ref pq)) (some (.tup (st.map .int))) (some (motifD t rows)) u14 (some (lineD L)) (some (.ref p)) (some (.int kk)) (some (pt wk.x0 wk.x1)) (some (pt wk.y0 wk.y1)) (some (.int wk.n)) v21 u22 u23 u24) ∧
      G' p = some (.lst ((sixI far L ++ ((wish4 wk).take i).map fun w' => (far + 1, L.set kk w')).map thD)) ∧ G' p2 = some (.lst ((wish4 wk).map wD)) ∧ G' pq = some (.lst (places.map .int)) ∧ Dr a w c (n + 1) G' ∧ Fr a w G G',
    ⟨⟨_, rfl⟩, by rw [gup_ne g12]; simpa using g1, gup_same, by rw [gup_ne (gne_none gq1 hp2)]; exact gq1, d3, f1.trans (.same (.new hp2))⟩, fun i ρ G' h _ => ⟨h.2.2.1, trivial⟩, ?_, ?_⟩
  · rintro i d ρ G2 ed ⟨⟨v21, rfl⟩, e1, e2, e3, d4, f4⟩
    obtain ⟨w', rfl, ew⟩ := line_get ed
    have hi := (List.getElem?_eq_some_iff.mp ew).1
    have hi4 : i < 4 := hi
    have lc1 : (TL.cutD (L.map wD) none (some (kk : Int))).length ≤ 100 := by rw [cut_hi, List.length_take]; omega
    have lc2 : (TL.cutD (L.map wD) (some ((kk : Int) + 1)) none).length ≤ 100 := by rw [show (kk : Int) + 1 = ((kk + 1 : Nat) : Int) from rfl, cut_lo, List.length_drop]; omega
    refine ⟨⟨_, e1⟩, (by show 1 ≤ 1000; decide), (by
        show (TL.cutD (L.map wD) none (some (kk : Int))).length + 1 ≤ sizeLine
        rw [sizeLine_eq]; omega), (by
        show (TL.cutD (L.map wD) none (some (kk : Int)) ++ [wD w']).length + (TL.cutD (L.map wD) (some ((kk : Int) + 1)) none).length ≤ sizeLine
        rw [List.length_append, sizeLine_eq]; simp; omega), le3, _, e1, ?_, ⟨_, rfl⟩, ?_, ?_, ?_, ?_, ?_⟩
    · rw [List.length_map, List.length_append, List.length_map, List.length_take, sizeLine_eq]
      show 6 + min i 4 < _
      omega
    · rw [gup_same]
      have et : thD (far + 1, L.set kk w') = .tup [.str "never", .int ((far : Int) + 1), .tup ((TL.cutD (L.map wD) none (some (kk : Int)) ++ [wD w']) ++ TL.cutD (L.map wD) (some ((kk : Int) + 1)) none)] := by
        rw [set_cut hk w']; rfl
      rw [List.take_add_one, ew, List.map_append (l₂ := (some w').toList), ← List.append_assoc, List.map_append (l₂ := ((some w').toList).map fun w' => (far + 1, L.set kk w'))]
      show some (O.lst (_ ++ [_])) = some (O.lst (_ ++ [thD (far + 1, L.set kk w')]))
      rw [et]
    · rw [gup_ne g12.symm]; exact e2
    · rw [gup_ne npp]; exact e3
    · exact d4.put op
    · intro x o n1 n2 ex
      rw [gup_ne (gne_none ex hp)]
      exact f4 x o n1 n2 ex
  · rintro ρ G2 ⟨⟨v21, rfl⟩, e1, e2, e3, d4, f4⟩
    rw [List.length_map, List.take_length] at e1
    refine things_ok hF hY hL gr (q0 := (far + 1, L)) (places := places) rfl ?_ e1 e3 ?_ fun v22 v23 G3 s3 => k _ _ _ _ _ _ _ _ G3 (d4.same s3) (f4.trans (.same s3))
    · -- each thing is fair
      intro q hq
      obtain ⟨w1, w2, w3, w4, w5, w6⟩ := hsm wk hmem
      rcases List.mem_append.mp hq with hq | hq
      · unfold sixI at hq
        simp only [List.mem_cons, List.not_mem_nil, or_false] at hq
        rcases hq with rfl | rfl | rfl | rfl | rfl | rfl
        · exact fair_nice gr hr he (by show far + 1 ≤ 10000; omega) (by show L.length ≤ 1000; omega) hsmall hnice
        · exact fair_nice gr hr he (by show far + 2 ≤ 10000; omega) (by show L.length ≤ 1000; omega) hsmall hnice
        · exact fair_nice gr hr he (by show far ≤ 10000; omega) (by show L.length ≤ 1000; omega) hsmall hnice
        · exact fair_nice gr hr he (by show far + 4 ≤ 10000; omega) (by show L.length ≤ 1000; omega) hsmall hnice
        · exact fair_nice gr hr he (by show far + 1 ≤ 10000; omega) (by show (rot L).length ≤ 1000; omega) (fun w hw => hsmall w (rot_mem hw)) fun w hw => hnice w (rot_mem hw)
        · exact fair_nice gr hr he (by show far + 1 ≤ 10000; omega) (by show (L ++ L).length ≤ 1000; rw [List.length_append]; omega) (fun w hw => hsmall w ((List.mem_append.mp hw).elim id id)) fun w hw => hnice w ((List.mem_append.mp hw).elim id id)
      · obtain ⟨w', hw', rfl⟩ := List.mem_map.mp hq
        have hlen' : (L.set kk w').length ≤ 1000 := by rw [List.length_set]; omega
        have nice1 : ∀ w' : Wsh, w'.x0 = wk.x0 → w'.x1 = wk.x1 → w'.y0 = wk.y0 → w'.y1 = wk.y1 → -99 ≤ w'.n → w'.n ≤ 99 → Fair t rows st (far + 1, L.set kk w') := by
          intro w' e1 e2 e3 e4 e5 e6
          refine fair_nice gr hr he (by show far + 1 ≤ 10000; omega) (by show (L.set kk w').length ≤ 1000; rw [List.length_set]; omega) (fun w hw => ?_) fun w hw => ?_
          · rcases mem_set hw with h | rfl
            · exact hsmall w h
            · exact ⟨by omega, by omega, by omega, by omega, e5, e6⟩
          · rcases mem_set hw with h | rfl
            · exact hnice w h
            · rw [e1, e2, e3, e4]; exact hnice wk hmem
        have broke : ∀ w' : Wsh, (¬ (w'.x0 = wk.x0 ∧ w'.x1 = wk.x1) ∨ ¬ (w'.y0 = wk.y0 ∧ w'.y1 = wk.y1)) → Small w' → Fair t rows st (far + 1, L.set kk w') := by
          intro w' hb hs
          have nb := broken hch (by omega) ek hb
          refine ⟨by show far + 1 ≤ 10000; omega, by show (L.set kk w').length ≤ 1000; rw [List.length_set]; omega, fun w hw => ?_, ⟨fun z => absurd z.2.2.2.1 nb, fun z => absurd z.2.2.2.2.1 nb⟩⟩
          rcases mem_set hw with h | rfl
          · exact hsmall w h
          · exact hs
        unfold wish4 at hw'
        simp only [List.mem_cons, List.not_mem_nil, or_false] at hw'
        rcases hw' with rfl | rfl | rfl | rfl
        · exact nice1 _ rfl rfl rfl rfl (by simp only; omega) (by simp only; omega)
        · exact nice1 _ rfl rfl rfl rfl (by simp only; omega) (by simp only; omega)
        · exact broke _ (.inl (by simp only; omega)) ⟨by simp only; omega, by simp only; omega, by simp only; omega, by simp only; omega, by simp only; omega, by simp only; omega⟩
        · exact broke _ (.inr (by simp only; omega)) ⟨by simp only; omega, by simp only; omega, by simp only; omega, by simp only; omega, by simp only; omega, by simp only; omega⟩
    · -- the ring is one, if the places are fewer
      show IsFar t rows st (far + 1) L ↔ (places.length : Int) < ln
      constructor
      · intro z
        have h5 := z.2.2.2.2
        have hsum' : (L.map fun w : Wsh => w.n).sum = st.sum - (ws.map lst).sum := hsum
        have h5' : (L.map fun w : Wsh => w.n).sum < 0 := h5
        rw [hpl, hln]; omega
      · intro z
        refine ⟨by omega, fun e => by rw [e] at hlen; simp at hlen, hnum, hch, ?_⟩
        have hsum' : (L.map fun w : Wsh => w.n).sum = st.sum - (ws.map lst).sum := hsum
        show (L.map fun w : Wsh => w.n).sum < 0
        rw [hpl, hln] at z; omega
end
end K59
end
section
set_option Elab.async false
set_option linter.all false
set_option maxRecDepth 100000
set_option maxHeartbeats 4000000
namespace K59
open PySem PySem.Spec PyProof.Rows L2 TL
/-! ### one turn of the law -/
theorem rangeD_int (n : Nat) : rangeD 0 n 1 = ((List.range n).map fun i => ((i : Nat) : Int)).map .int := by
  unfold rangeD
  rw [List.map_map]
  apply List.map_congr_left
  intro i _
  show D.int (0 + (i : Int) * 1) = D.int (i : Int)
  congr 1; omega
theorem lst_fm : ∀ ws : List D, ws.filterMap (fun d => some (D.int (lst d))) = (ws.map lst).map .int
  | [] => rfl
  | w :: ws => by rw [List.filterMap_cons, lst_fm ws]; rfl
def inP (places : List Int) (p : Int) : Int := if p ∈ places then 1 else 0
def inF (places : List Int) : D → Option D
  | .int z => some (.int (inP places z))
  | _ => none
theorem in_fm (places : List Int) : ∀ l : List Int, (l.map D.int).filterMap (inF places) = (l.map (inP places)).map .int
  | [] => rfl
  | z :: l => by rw [List.map_cons, List.filterMap_cons, in_fm places l]; rfl
theorem among_int (z : Int) : ∀ places : List Int, D.among (.int z) (places.map .int) = decide (z ∈ places)
  | [] => by simp [D.among]
  | y :: l => by
    have ih := among_int z l
    unfold D.among at ih ⊢
    rw [List.map_cons, List.any_cons, ih]
    show ((y == z) || decide (z ∈ l)) = _
    rw [Bool.eq_iff_iff]
    simp only [Bool.or_eq_true, beq_iff_eq, decide_eq_true_eq, List.mem_cons]
    constructor
    · rintro (h | h)
      · exact .inl h.symm
      · exact .inr h
    · rintro (h | h)
      · exact .inl h.symm
      · exact .inr h
theorem ind_sum (places : List Int) : ∀ l : List Int, (l.map (inP places)).sum = ((l.filter fun z => decide (z ∈ places)).length : Int)
  | [] => rfl
  | z :: l => by
    rw [List.map_cons, List.sum_cons, ind_sum places l, List.filter_cons]
    unfold inP
    by_cases h : z ∈ places
    · rw [if_pos h, if_pos (decide_eq_true h), List.length_cons]; omega
    · rw [if_neg h, if_neg (fun e => h (of_decide_eq_true e))]; omega
theorem places_sum {t : Nat} {out places : List Int} (hp : out.Perm ((List.range t).map fun i => ((i : Nat) : Int))) (m : Nat) (e : places = out.take m) : (places.length : Int) = (((List.range t).map fun i => ((i : Nat) : Int)).map (inP places)).sum := by
  rw [ind_sum]
  have nr : ((List.range t).map fun i => ((i : Nat) : Int)).Nodup := by
    refine List.Pairwise.map _ (fun a b h => ?_) (List.nodup_range (n := t))
    intro z
    exact h (by omega)
  have no : out.Nodup := hp.nodup_iff.mpr nr
  have np : places.Nodup := by rw [e]; exact no.sublist (List.take_sublist _ _)
  have h1 : places.length ≤ (((List.range t).map fun i => ((i : Nat) : Int)).filter fun z => decide (z ∈ places)).length := by
    refine List.Nodup.subperm_len np fun k hk => ?_
    rw [List.mem_filter]
    refine ⟨hp.mem_iff.mp (by rw [e] at hk; exact List.mem_of_mem_take hk), decide_eq_true hk⟩
  have h2 : (((List.range t).map fun i => ((i : Nat) : Int)).filter fun z => decide (z ∈ places)).length ≤ places.length := by
    refine List.Nodup.subperm_len (nr.sublist List.filter_sublist) fun k hk => ?_
    exact of_decide_eq_true (List.mem_filter.mp hk).2
  omega
section
variable {C : Addr} {sB sT sW sP sS sR sF sY sL : Spd} (hT : TakeOk sT) (hW : WishedOk sW) (hP : PickOk sP) (hS : ShufOk sS) (hR : FarRingOk sR) (hF : FarOk sF) (hY : SaysOk sY) (hL : PaperOk C sL)
variable {t n far half here : Nat} {rows : List D} {E : EndsD} {G : Gp} {a w c : Addr} {u0 u2 u6 u9 u10 u11 u12 u13 u14 u15 u16 u17 u18 u19 u20 u21 u22 u23 u24 : Option D}
include hT hS hR hF hY hL in
theorem turn2_ok (ht3 : 3 ≤ t) (ht9 : t ≤ 9) (hrows : RowsOk t rows) (hh : 1 ≤ half) (hh2 : half ≤ 30) (hrl : rows.length = 2 * half) (hhe : here % 2 = 0) (hhl : here < 2 * half) (hf : far ≤ 1000) (hpos : 1 ≤ here + far)
    (dr : Dr a w c n G) (hn : n ≤ 800000000)
    (k : ∀ ρ G', (∃ x2 x3 x4 x5 x6 x7 x8 x9 x10 x11 x12 x13 x14 x15 x16 x17 x18 x19 x20 x21 x22 x23, ρ = [u0, some (.ref a), x2, x3, x4, x5, x6, x7, x8, x9, x10, x11, x12, x13, x14, x15, x16, x17, x18, x19, x20, x21, x22, x23, u24]) → Dr a w c (n + 100) G' → E.nx ρ G') :
    rd_law_14 C sB sT sW sP sS sR sF sY sL E [u0, some (.ref a), u2, some (.int t), some (.int half), some (.tup rows), u6, some (.int here), some (.int far), u9, u10, u11, u12, u13, u14, u15, u16, u17, u18, u19, u20, u21, u22, u23, u24] G := by
  -- the row that is looked at
  have hlt : here < rows.length := by omega
  have eh : rows[here]? = some rows[here] := List.getElem?_eq_getElem hlt
  obtain ⟨ws, h1, h2, h3⟩ := hrows _ _ eh
  have hat0 : rowAt rows here = ws := by
    unfold rowAt
    rw [Nat.mod_eq_of_lt hlt, eh, h1]
  have hws : ws.length = t / 2 := by rw [h2, spots_len, hhe, Nat.sub_zero]
  refine ⟨.tup ws, L2.atI_nat (by rw [eh, h1]), ws, rfl, ?_⟩
  -- least
  refine lc_pure (fun d => some (.int (lst d))) ?_ ?_ ?_ ?_
  · trivial
  · omega
  · intro i d e G1 s1 K kk
    have hw := h3 d (List.mem_of_getElem? e)
    have kk := kk G1 (.refl _)
    refine ⟨fun _ => ?_, fun z => nomatch z⟩
    have tupc : ∀ x y : Int, d = .tup [.int x, .int y] → (qIf (qB (qIsi "tuple" (qVar 21))) (qCB rdSum (qCons (qVar 21) qNil)) (qIf (qB (qBin rdEq (qVar 21) (qC (.int 1)))) (qC (.int 1)) (qC (.int 0)))) [u0, some (.ref a), u2, some (.int t), some (.int half), some (.tup rows), u6, some (.int here), some (.int far), some (.tup ws), u10, u11, u12, u13, u14, u15, u16, u17, u18, u19, u20, some d, u22, u23, u24] G1 fun y G4 => K (some y) G4 := by
      rintro x y rfl
      refine Br.t' ⟨[x, y], rfl, ?_⟩
      show K (some (.int [x, y].sum)) G1
      have hs : [x, y].sum = x + y := by simp
      rw [hs]; exact kk
    unfold wishOk at hw
    simp only [List.mem_cons, List.not_mem_nil, or_false] at hw
    rcases hw with rfl | rfl | rfl | rfl | rfl | rfl
    · exact Br.f' ⟨rfl, Br.f' kk⟩
    · exact Br.f' ⟨rfl, Br.f' kk⟩
    · exact Br.f' ⟨rfl, Br.t' kk⟩
    · exact tupc 0 0 rfl
    · exact tupc 0 1 rfl
    · exact tupc 1 1 rfl
  intro p1 G1 hp1 s1 g1
  rw [lst_fm] at g1
  refine ⟨_, g1, ?_⟩
  have d1 := dr.same s1
  clear hp1 g1
  -- places
  refine ⟨⟨by omega, by omega⟩, (by show ((t : Int)).toNat ≤ 1000000; omega), fun p2 hp2 => ?_⟩
  have er : (rangeD 0 ((t : Int)).toNat 1) = ((List.range t).map fun i => ((i : Nat) : Int)).map .int := by
    rw [show ((t : Int)).toNat = t by omega]; exact rangeD_int t
  have d2 := d1.new (o := .lst (rangeD 0 ((t : Int)).toNat 1)) hp2
  refine hS d2 (by omega) (by rw [gup_same, er]) (by simp; omega) fun q out G2 hq hperm g2 d3 f3 => ?_
  have oq := d2.off hq
  refine hT d3 (by simp; omega) (by decide) (by decide) fun z G3 z0 z1 d4 f4 => ?_
  have g3 := f4 _ _ oq.1 oq.2.1 g2
  obtain ⟨mm, hmm⟩ : ∃ mm : Nat, max 0 ((ws.map lst).sum - z) = (mm : Int) := ⟨(max 0 ((ws.map lst).sum - z)).toNat, by omega⟩
  refine ⟨_, g3, fun pq hpq => ?_⟩
  have ec : TL.cutD (out.map D.int) none (some (max 0 ((ws.map lst).sum - z))) = (out.take mm).map .int := by
    rw [hmm, cut_hi, List.map_take]
  show rd_law_11 C sB sT sW sP sS sR sF sY sL E [u0, some (.ref a), u2, some (.int t), some (.int half), some (.tup rows), u6, some (.int here), some (.int far), some (.tup ws), some (.int (ws.map lst).sum), some (.ref pq), u12, u13, u14, u15, u16, u17, u18, u19, u20, u21, u22, u23, u24] (gup G3 pq (.lst (TL.cutD (out.map D.int) none (some (max 0 ((ws.map lst).sum - z))))))
  rw [ec]
  have opq := d4.off hpq
  have d5 := d4.new (o := .lst ((out.take mm).map .int)) hpq
  have gq5 : gup G3 pq (.lst ((out.take mm).map D.int)) pq = some (.lst ((out.take mm).map D.int)) := gup_same
  have hpl := places_sum hperm mm rfl
  generalize hpls : out.take mm = places at d5 gq5 hpl ⊢
  generalize gup G3 pq (.lst (places.map D.int)) = G5 at d5 gq5 ⊢
  -- start
  refine ⟨⟨by omega, by omega⟩, ?_⟩
  refine lc_pure (inF places) ?_ ?_ ?_ ?_
  · trivial
  · rw [rangeD_len]; show ((t : Int)).toNat < 1000000; omega
  · intro i d e G6 s6 K kk
    rw [er] at e
    obtain ⟨y, rfl, _⟩ := ints_get e
    have kk := kk G6 (.refl _)
    refine ⟨fun _ => ⟨_, s6 _ _ gq5, rfl, okL_ints places, ?_⟩, fun z => nomatch z⟩
    show K (some (.int (if D.among (.int y) (places.map .int) = true then 1 else 0))) G6
    rw [among_int]
    have : (if decide (y ∈ places) = true then (1 : Int) else 0) = inP places y := by
      unfold inP
      by_cases h : y ∈ places <;> simp [h]
    rw [this]; exact kk
  intro p6 G6 hp6 s6 g6
  rw [er, in_fm] at g6
  refine ⟨_, g6, ?_⟩
  have d6 := d5.same s6
  have gq6 := s6 _ _ gq5
  generalize hst : ((List.range t).map fun i => ((i : Nat) : Int)).map (inP places) = st at g6 hpl ⊢
  have hsl : st.length = t := by rw [← hst]; simp
  have h01 : ∀ z ∈ st, z = 0 ∨ z = 1 := by
    intro z hz
    rw [← hst] at hz
    obtain ⟨y, _, rfl⟩ := List.mem_map.mp hz
    unfold inP
    split
    · exact .inr rfl
    · exact .inl rfl
  have gr : Ground t rows st := ⟨ht3, by omega, hrows, by omega, by omega, by omega, hsl, h01⟩
  -- motif, row
  have hb1 : far * 2 * half ≤ 1000 * 2 * 30 := Nat.mul_le_mul (Nat.mul_le_mul_right 2 hf) hh2
  have erow : (rows.length * far) + here = far * 2 * half + here := by rw [hrl, Nat.mul_assoc far 2 half, Nat.mul_comm (2 * half) far]
  have hrow0 : far = 0 ∨ 2 * half ≤ far * 2 * half := by
    by_cases z : far = 0
    · exact .inl z
    · right
      rw [Nat.mul_assoc]
      exact Nat.le_mul_of_pos_left _ (by omega)
  have hreven : (far * 2 * half + here) % 2 = 0 := by
    rw [Nat.mul_assoc, Nat.mul_comm far (2 * half), Nat.mul_assoc]; omega
  have hr2 : 2 ≤ far * 2 * half + here := by
    rcases hrow0 with z | z
    · omega
    · omega
  refine ⟨le3, .inl (.inl ⟨by omega, by omega⟩), .inl (.inr ⟨by omega, by omega⟩), le2, ?_⟩
  show rd_law_9 C sB sT sW sP sS sR sF sY sL E [u0, some (.ref a), u2, some (.int t), some (.int half), some (.tup rows), u6, some (.int here), some (.int far), some (.tup ws), some (.int (ws.map lst).sum), some (.ref pq), some (.tup (st.map .int)), some (motifD t rows), some (.int ((far * 2 * half + here : Nat) : Int)), u15, u16, u17, u18, u19, u20, u21, u22, u23, u24] G6
  refine hR ht3 (by omega) hreven hr2 (by omega) hws h3 hsl fun G7 s7 => ?_
  have d7 := d6.same s7
  refine build_ok hT hF hY hL gr hr2 hreven (by omega) (by omega) hws h3 ?_ ?_ (s7 _ _ gq6) opq.1 opq.2.1 d7 (by simp; omega) rfl hpl fun v16 v17 v18 v19 v20 v21 v22 v23 G8 d8 f8 => ?_
  · rw [← erow, Nat.mul_add]; omega
  · rw [← hat0]
    unfold rowAt
    rw [← erow, Nat.mul_add_mod]
  · exact k _ G8 ⟨_, _, _, _, _, _, _, _, _, _, _, _, _, _, _, _, _, _, _, _, _, _, rfl⟩ (d8.mono (by simp; omega))
end
end K59
end
section
set_option Elab.async false
set_option linter.all false
set_option maxRecDepth 100000
set_option maxHeartbeats 4000000
namespace K59
open PySem PySem.Spec PyProof.Rows L2 TL
section
variable {C : Addr} {sB sT sW sP sS sR sF sY sL : Spd} (hB : ∀ {ns : List Int} {G : Gp} {Q : KD}, ns.length ≤ 63 → (∀ a w c G', GSame G G' → Dr a w c 0 G' → Q (.ref a) G') → sB [.scr ns] G Q) (hT : TakeOk sT) (hW : WishedOk sW) (hP : PickOk sP) (hS : ShufOk sS) (hR : FarRingOk sR) (hF : FarOk sF) (hY : SaysOk sY) (hL : PaperOk C sL)
variable {n : Nat} {E : EndsD} {G : Gp} {a w c : Addr} {u0 u2 u3 u4 u5 u6 u7 u8 u9 u10 u11 u12 u13 u14 u15 u16 u17 u18 u19 u20 u21 u22 u23 u24 : Option D}
include hT hW hP hS hR hF hY hL in
theorem turn1_ok (dr : Dr a w c n G) (hn : n ≤ 700000000)
    (k : ∀ ρ G', (∃ x2 x3 x4 x5 x6 x7 x8 x9 x10 x11 x12 x13 x14 x15 x16 x17 x18 x19 x20 x21 x22 x23, ρ = [u0, some (.ref a), x2, x3, x4, x5, x6, x7, x8, x9, x10, x11, x12, x13, x14, x15, x16, x17, x18, x19, x20, x21, x22, x23, u24]) → Dr a w c (n + 5000) G' → E.nx ρ G') :
    rd_law_19 C sB sT sW sP sS sR sF sY sL E [u0, some (.ref a), u2, u3, u4, u5, u6, u7, u8, u9, u10, u11, u12, u13, u14, u15, u16, u17, u18, u19, u20, u21, u22, u23, u24] G := by
  -- threads, half
  refine hT dr (by omega) (by decide) (by decide) fun z1 G1 a1 b1 d1 f1 => ?_
  obtain ⟨t0, rfl⟩ : ∃ t0 : Nat, z1 = (t0 : Int) := ⟨z1.toNat, by omega⟩
  refine hT d1 (by omega) (by decide) (by decide) fun z2 G2 a2 b2 d2 f2 => ⟨le2, ?_⟩
  obtain ⟨h0, rfl⟩ : ∃ h0 : Nat, z2 = (h0 : Int) := ⟨z2.toNat, by omega⟩
  have et : (3 : Int) + (t0 : Int) = ((3 + t0 : Nat) : Int) := by omega
  have eh : (1 : Int) + (h0 : Int) = ((1 + h0 : Nat) : Int) := by omega
  show rd_law_18 C sB sT sW sP sS sR sF sY sL E [u0, some (.ref a), u2, some (.int (3 + (t0 : Int))), some (.int (1 + (h0 : Int))), u5, u6, u7, u8, u9, u10, u11, u12, u13, u14, u15, u16, u17, u18, u19, u20, u21, u22, u23, u24] G2
  rw [et, eh]
  have ht3 : 3 ≤ 3 + t0 := by omega
  have ht9 : 3 + t0 ≤ 9 := by omega
  have hh1 : 1 ≤ 1 + h0 := by omega
  have hh2 : 1 + h0 ≤ 30 := by omega
  clear et eh a1 b1 a2 b2
  generalize 3 + t0 = t at ht3 ht9 ⊢
  generalize 1 + h0 = half at hh1 hh2 ⊢
  -- the rows
  refine ⟨.inl (.inl ⟨by decide, by decide⟩), (by decide), fun p1 hp1 => ?_⟩
  have o1 := d2.off hp1
  have d3 := d2.new (o := .lst [.int 2, .int 5]) hp1
  refine hP d3 (by omega) (x := .ref p1) (es := [.int 2, .int 5]) gup_same (fun p e => by cases e; exact ⟨o1.1, o1.2.1⟩) (fun ns e => nomatch e) (by decide) (by decide) fun i e G3 he d4 f4 => ?_
  obtain ⟨sh, rfl, s0, s1⟩ : ∃ sh : Nat, e = .int (sh : Int) ∧ 0 < sh ∧ sh < 100 := by
    match i, he with
    | 0, he => cases he; exact ⟨2, rfl, by decide, by decide⟩
    | 1, he => cases he; exact ⟨5, rfl, by decide, by decide⟩
    | j + 2, he => simp at he
  show sW [.ref a, .int (t : Int), .int ((2 * half : Nat) : Int), .int (sh : Int)] G3 _
  refine hW d4 (by omega) (by omega) (by omega) (by omega) s0 s1 fun rows G4 hrl hrows d5 f5 => ?_
  -- most
  have hdv : CDivW 150 (half : Int) := ⟨by omega, log_small (by omega)⟩
  refine ⟨hdv, ?_⟩
  obtain ⟨most, hmost, m2, m150⟩ : ∃ most : Nat, max 2 ((150 : Int) / (half : Int)) = (most : Int) ∧ 2 ≤ most ∧ most ≤ 150 := by
    have h1 : (150 : Int) / (half : Int) ≤ 150 := Int.ediv_le_self _ (by decide)
    have h2 : 0 ≤ (150 : Int) / (half : Int) := Int.ediv_nonneg (by decide) (by omega)
    exact ⟨(max 2 ((150 : Int) / (half : Int))).toNat, by omega, by omega, by omega⟩
  show rd_law_16 C sB sT sW sP sS sR sF sY sL E [u0, some (.ref a), u2, some (.int t), some (.int half), some (.tup rows), some (.int (max 2 ((150 : Int) / (half : Int)))), u7, u8, u9, u10, u11, u12, u13, u14, u15, u16, u17, u18, u19, u20, u21, u22, u23, u24] G4
  rw [hmost]
  -- here, far
  refine hT d5 (by omega) (by omega) (by omega) fun z3 G5 a3 b3 d6 f6 => ⟨.inl (.inl ⟨by decide, by decide⟩), ?_⟩
  obtain ⟨hz, rfl⟩ : ∃ hz : Nat, z3 = (hz : Int) := ⟨z3.toNat, by omega⟩
  refine hT d6 (by omega) (by omega) (by omega) fun z4 G6 a4 b4 d7 f7 => ⟨(by show 4 ≤ 1000; decide), fun p2 hp2 => ?_⟩
  have o2 := d7.off hp2
  have d8 := d7.new (o := .lst [.int 0, .int 1, .int ((most : Int) - 1), .int z4]) hp2
  refine hP d8 (by omega) (x := .ref p2) (es := [.int 0, .int 1, .int ((most : Int) - 1), .int z4]) gup_same (fun p e => by cases e; exact ⟨o2.1, o2.2.1⟩) (fun ns e => nomatch e) (show 0 < 4 by decide) (show 4 < 1000000 by decide) fun i e G7 he d9 f9 => ⟨le2, ?_⟩
  obtain ⟨far, rfl, hf⟩ : ∃ far : Nat, e = .int (far : Int) ∧ far ≤ 200 := by
    match i, he with
    | 0, he => cases he; exact ⟨0, rfl, by decide⟩
    | 1, he => cases he; exact ⟨1, rfl, by decide⟩
    | 2, he => cases he; exact ⟨most - 1, by show D.int ((most : Int) - 1) = _; congr 1; omega, by omega⟩
    | 3, he => cases he; exact ⟨z4.toNat, by show D.int z4 = _; congr 1; omega, by omega⟩
    | j + 4, he => simp at he
  have fin : ∀ far' : Nat, far' ≤ 1000 → 1 ≤ 2 * hz + far' → rd_law_14 C sB sT sW sP sS sR sF sY sL E [u0, some (.ref a), u2, some (.int t), some (.int half), some (.tup rows), some (.int most), some (.int ((2 * hz : Nat) : Int)), some (.int (far' : Int)), u9, u10, u11, u12, u13, u14, u15, u16, u17, u18, u19, u20, u21, u22, u23, u24] G7 := by
    intro far' h1 h2
    refine turn2_ok hT hS hR hF hY hL ht3 ht9 hrows hh1 hh2 hrl (by omega) (by omega) h1 h2 d9 (by omega) fun ρ G8 hρ d10 => k ρ G8 hρ (d10.mono (by omega))
  refine ⟨rfl, fun h => ?_, fun h => ?_⟩
  · have h : (2 : Int) * (hz : Int) + (far : Int) = 0 := beq0.mp h
    exact fin 1 (by decide) (by omega)
  · have h : ¬ (2 : Int) * (hz : Int) + (far : Int) = 0 := neb h
    exact fin far (by omega) (by omega)
include hB hT hW hP hS hR hF hY hL in
theorem law_ok (ns : List Int) (hn : ns.length ≤ 63) : spB 25 1 (rd_law C sB sT sW sP sS sR sF sY sL) [.scr ns] (fun _ => none) fun d _ => d = .bl true := by
  refine ⟨rfl, hB hn fun a w c G s d0 => ?_⟩
  have hlim : Lim (1 + min (ns.length : Int) 2) := ⟨by omega, by omega⟩
  have el : (1 + min (ns.length : Int) 2).toNat ≤ 3 := by omega
  refine ⟨hlim, fun i ρ G' => (∃ x2 x3 x4 x5 x6 x7 x8 x9 x10 x11 x12 x13 x14 x15 x16 x17 x18 x19 x20 x21 x22 x23, ρ = [some (.scr ns), some (.ref a), x2, x3, x4, x5, x6, x7, x8, x9, x10, x11, x12, x13, x14, x15, x16, x17, x18, x19, x20, x21, x22, x23, none]) ∧ Dr a w c (5000 * i) G',
    ⟨⟨_, _, _, _, _, _, _, _, _, _, _, _, _, _, _, _, _, _, _, _, _, _, rfl⟩, d0⟩, fun _ _ _ _ _ => trivial, ?_, ?_⟩
  · rintro i d ρ G1 ed ⟨⟨x2, x3, x4, x5, x6, x7, x8, x9, x10, x11, x12, x13, x14, x15, x16, x17, x18, x19, x20, x21, x22, x23, rfl⟩, d1⟩
    have hi : i < (1 + min (ns.length : Int) 2).toNat := (rangeD_get ed).2
    refine turn1_ok hT hW hP hS hR hF hY hL d1 (by omega) fun ρ G2 hρ d2 => ⟨hρ, d2.mono (by omega)⟩
  · rintro ρ G1 ⟨⟨x2, x3, x4, x5, x6, x7, x8, x9, x10, x11, x12, x13, x14, x15, x16, x17, x18, x19, x20, x21, x22, x23, rfl⟩, d1⟩
    exact rfl
end
theorem law_math (ns : List Int) (C : Addr) (hn : ns.length ≤ 63) : sp_law C [.scr ns] (fun _ => none) fun d _ => d = .bl true := by
  have hNum : NumOk sp_is_number := is_number_ok
  have hAt : AtOk C (sp_Web_at C) := at_ok node_ok
  have hTell : TellOk C (sp_Web_tell C) := tell_ok C
  have hInit : InitOk C (sp_Web___init__ C) := init_ok hTell hAt spots_of_ok (tell_knot_ok hAt hTell) (tell_line_ok hAt hTell)
  have hPaper : PaperOk C (sp_is_lasting_paper C) := paper_ok
    (fun ht ht2 hrows hl0 hl hev => need_motif_ok (is_motif_ok ht ht2 hrows hl0 hl hev (are_rows_ok spots_of_ok ht ht2 hrows hl) hNum fun hw => knot_wish_ok hNum (fun h => is_wish_ok hNum h) hw))
    (fun hst ht h01 => need_start_ok hNum hst ht h01)
    (never_ok hNum (form_ok hNum) hInit task_ok near_ok)
  exact law_ok (fun h k => begun_ok h k) take_ok wished_ok pick_ok shuf_ok (far_ring_ok law_spots_ok law_node_ok) (far_ok law_is_int_ok (numof_ok row_ok law_spots_ok knot_ok law_node_ok)) says_ok hPaper ns hn
end K59
end
section
set_option Elab.async false
set_option linter.all false
set_option maxRecDepth 100000
set_option maxHeartbeats 4000000
namespace K59
open PySem PySem.Spec PyProof.Rows L2 TL
theorem all_mk (mathx : ∀ (ns : List Int) (C_Web : Addr), ns.length ≤ 63 → sp_law C_Web [.scr ns] (fun _ => none) fun d _ => d = .bl true)
    {P : Program} {w : World} {K : PySem.W.Frag} {h : Heap} {mg : Str → Option Value} {fa : Addr} (X : K.In h) (G : h.Ns mainGlobals mg) (hfa : mg "law" = some (.ref fa))
    {f__law_begun : Addr} {od__law_begun an__law_begun : Option Addr} {sl__law_begun : Array (Option Value)} {oc__law_begun kV__law_begun dc__law_begun pm__law_begun cd__law_begun ct__law_begun : Value}
    {f__law_mixed : Addr} {od__law_mixed an__law_mixed : Option Addr} {sl__law_mixed : Array (Option Value)} {oc__law_mixed kV__law_mixed dc__law_mixed pm__law_mixed cd__law_mixed ct__law_mixed : Value}
    {f__law_take : Addr} {od__law_take an__law_take : Option Addr} {sl__law_take : Array (Option Value)} {oc__law_take kV__law_take dc__law_take pm__law_take cd__law_take ct__law_take : Value}
    {f__law_pick : Addr} {od__law_pick an__law_pick : Option Addr} {sl__law_pick : Array (Option Value)} {oc__law_pick kV__law_pick dc__law_pick pm__law_pick cd__law_pick ct__law_pick : Value}
    {f__law_spots : Addr} {od__law_spots an__law_spots : Option Addr} {sl__law_spots : Array (Option Value)} {oc__law_spots kV__law_spots dc__law_spots pm__law_spots cd__law_spots ct__law_spots : Value}
    {f__law_wished_rows : Addr} {od__law_wished_rows an__law_wished_rows : Option Addr} {sl__law_wished_rows : Array (Option Value)} {oc__law_wished_rows kV__law_wished_rows dc__law_wished_rows pm__law_wished_rows cd__law_wished_rows ct__law_wished_rows : Value}
    {f__law_shuffled : Addr} {od__law_shuffled an__law_shuffled : Option Addr} {sl__law_shuffled : Array (Option Value)} {oc__law_shuffled kV__law_shuffled dc__law_shuffled pm__law_shuffled cd__law_shuffled ct__law_shuffled : Value}
    {f__law_node : Addr} {od__law_node an__law_node : Option Addr} {sl__law_node : Array (Option Value)} {oc__law_node kV__law_node dc__law_node pm__law_node cd__law_node ct__law_node : Value}
    {f__law_far_ring : Addr} {od__law_far_ring an__law_far_ring : Option Addr} {sl__law_far_ring : Array (Option Value)} {oc__law_far_ring kV__law_far_ring dc__law_far_ring pm__law_far_ring cd__law_far_ring ct__law_far_ring : Value}
    {f__law_is_int : Addr} {od__law_is_int an__law_is_int : Option Addr} {sl__law_is_int : Array (Option Value)} {oc__law_is_int kV__law_is_int dc__law_is_int pm__law_is_int cd__law_is_int ct__law_is_int : Value}
    {f__law_row_wishes : Addr} {od__law_row_wishes an__law_row_wishes : Option Addr} {sl__law_row_wishes : Array (Option Value)} {oc__law_row_wishes kV__law_row_wishes dc__law_row_wishes pm__law_row_wishes cd__law_row_wishes ct__law_row_wishes : Value}
    {f__law_knot_wishes : Addr} {od__law_knot_wishes an__law_knot_wishes : Option Addr} {sl__law_knot_wishes : Array (Option Value)} {oc__law_knot_wishes kV__law_knot_wishes dc__law_knot_wishes pm__law_knot_wishes cd__law_knot_wishes ct__law_knot_wishes : Value}
    {f__law_number_of : Addr} {od__law_number_of an__law_number_of : Option Addr} {sl__law_number_of : Array (Option Value)} {oc__law_number_of kV__law_number_of dc__law_number_of pm__law_number_of cd__law_number_of ct__law_number_of : Value}
    {f__law_is_far_ring : Addr} {od__law_is_far_ring an__law_is_far_ring : Option Addr} {sl__law_is_far_ring : Array (Option Value)} {oc__law_is_far_ring kV__law_is_far_ring dc__law_is_far_ring pm__law_is_far_ring cd__law_is_far_ring ct__law_is_far_ring : Value}
    {f__law_says : Addr} {od__law_says an__law_says : Option Addr} {sl__law_says : Array (Option Value)} {oc__law_says kV__law_says dc__law_says pm__law_says cd__law_says ct__law_says : Value}
    {f_spots_of : Addr} {od_spots_of an_spots_of : Option Addr} {sl_spots_of : Array (Option Value)} {oc_spots_of kV_spots_of dc_spots_of pm_spots_of cd_spots_of ct_spots_of : Value}
    {f_are_rows_of : Addr} {od_are_rows_of an_are_rows_of : Option Addr} {sl_are_rows_of : Array (Option Value)} {oc_are_rows_of kV_are_rows_of dc_are_rows_of pm_are_rows_of cd_are_rows_of ct_are_rows_of : Value}
    {f_is_number : Addr} {od_is_number an_is_number : Option Addr} {sl_is_number : Array (Option Value)} {oc_is_number kV_is_number dc_is_number pm_is_number cd_is_number ct_is_number : Value}
    {f_is_wish : Addr} {od_is_wish an_is_wish : Option Addr} {sl_is_wish : Array (Option Value)} {oc_is_wish kV_is_wish dc_is_wish pm_is_wish cd_is_wish ct_is_wish : Value}
    {f_is_knot_wish : Addr} {od_is_knot_wish an_is_knot_wish : Option Addr} {sl_is_knot_wish : Array (Option Value)} {oc_is_knot_wish kV_is_knot_wish dc_is_knot_wish pm_is_knot_wish cd_is_knot_wish ct_is_knot_wish : Value}
    {f_is_motif : Addr} {od_is_motif an_is_motif : Option Addr} {sl_is_motif : Array (Option Value)} {oc_is_motif kV_is_motif dc_is_motif pm_is_motif cd_is_motif ct_is_motif : Value}
    {f_need_motif : Addr} {od_need_motif an_need_motif : Option Addr} {sl_need_motif : Array (Option Value)} {oc_need_motif kV_need_motif dc_need_motif pm_need_motif cd_need_motif ct_need_motif : Value}
    {f_need_start : Addr} {od_need_start an_need_start : Option Addr} {sl_need_start : Array (Option Value)} {oc_need_start kV_need_start dc_need_start pm_need_start cd_need_start ct_need_start : Value}
    {f_is_wish_form : Addr} {od_is_wish_form an_is_wish_form : Option Addr} {sl_is_wish_form : Array (Option Value)} {oc_is_wish_form kV_is_wish_form dc_is_wish_form pm_is_wish_form cd_is_wish_form ct_is_wish_form : Value}
    {f_Web_tell : Addr} {od_Web_tell an_Web_tell : Option Addr} {sl_Web_tell : Array (Option Value)} {oc_Web_tell kV_Web_tell dc_Web_tell pm_Web_tell cd_Web_tell ct_Web_tell : Value}
    {f_node : Addr} {od_node an_node : Option Addr} {sl_node : Array (Option Value)} {oc_node kV_node dc_node pm_node cd_node ct_node : Value}
    {f_Web_at : Addr} {od_Web_at an_Web_at : Option Addr} {sl_Web_at : Array (Option Value)} {oc_Web_at kV_Web_at dc_Web_at pm_Web_at cd_Web_at ct_Web_at : Value}
    {f_Web_tell_knot : Addr} {od_Web_tell_knot an_Web_tell_knot : Option Addr} {sl_Web_tell_knot : Array (Option Value)} {oc_Web_tell_knot kV_Web_tell_knot dc_Web_tell_knot pm_Web_tell_knot cd_Web_tell_knot ct_Web_tell_knot : Value}
    {f_Web_tell_line : Addr} {od_Web_tell_line an_Web_tell_line : Option Addr} {sl_Web_tell_line : Array (Option Value)} {oc_Web_tell_line kV_Web_tell_line dc_Web_tell_line pm_Web_tell_line cd_Web_tell_line ct_Web_tell_line : Value}
    {f_Web___init__ : Addr} {od_Web___init__ an_Web___init__ : Option Addr} {sl_Web___init__ : Array (Option Value)} {oc_Web___init__ kV_Web___init__ dc_Web___init__ pm_Web___init__ cd_Web___init__ ct_Web___init__ : Value}
    {f_task_of_motifs : Addr} {od_task_of_motifs an_task_of_motifs : Option Addr} {sl_task_of_motifs : Array (Option Value)} {oc_task_of_motifs kV_task_of_motifs dc_task_of_motifs pm_task_of_motifs cd_task_of_motifs ct_task_of_motifs : Value}
    {f_brought_near : Addr} {od_brought_near an_brought_near : Option Addr} {sl_brought_near : Array (Option Value)} {oc_brought_near kV_brought_near dc_brought_near pm_brought_near cd_brought_near ct_brought_near : Value}
    {f_is_never : Addr} {od_is_never an_is_never : Option Addr} {sl_is_never : Array (Option Value)} {oc_is_never kV_is_never dc_is_never pm_is_never cd_is_never ct_is_never : Value}
    {f_is_lasting_paper : Addr} {od_is_lasting_paper an_is_lasting_paper : Option Addr} {sl_is_lasting_paper : Array (Option Value)} {oc_is_lasting_paper kV_is_lasting_paper dc_is_lasting_paper pm_is_lasting_paper cd_is_lasting_paper ct_is_lasting_paper : Value}
    {f_law : Addr} {od_law an_law : Option Addr} {sl_law : Array (Option Value)} {oc_law kV_law dc_law pm_law cd_law ct_law : Value}
    {C_Web : Addr}
    {t1 : Tok}
    {t2 : Tok}
    {t3 : Tok}
    {t6 : Tok}
    {t7 : Tok}
    {p5 : Addr} {od5 : Option Addr} {n5 : Nat} {sl5 : Array (Option Value)}
    {t9 : Tok}
    {t10 : Tok}
    {p8 : Addr} {od8 : Option Addr} {n8 : Nat} {sl8 : Array (Option Value)}
    {t12 : Tok}
    {t13 : Tok}
    {p11 : Addr} {od11 : Option Addr} {n11 : Nat} {sl11 : Array (Option Value)}
    {p4 : Addr} {od4 : Option Addr} {n4 : Nat} {sl4 : Array (Option Value)}
    (aC_Web : PySem.W.nsIn K mainGlobals "Web" = some (some (.ref C_Web)))
    (pg_Web : PySem.W.plainGet K C_Web Str.empty = true)
    (hd_Web : PySem.W.hasDictIn K C_Web = true)
    (po_Web : PySem.W.plainOver K C_Web = true)
    (sa_Web : PySem.W.findIn K (.ref C_Web) "__setattr__" = some (some (.builtin "object.__setattr__")))
    (mk_Web : PySem.W.makesIn K C_Web = true)
    (kc_Web : PySem.W.keepIn K (.ref C_Web) = true)
    (n_Web_many : PySem.W.findIn K (.ref C_Web) "many" = some none)
    (n_Web_threads : PySem.W.findIn K (.ref C_Web) "threads" = some none)
    (n_Web_told : PySem.W.findIn K (.ref C_Web) "told" = some none)
    (a__law_begun : PySem.W.nsIn K mainGlobals "_law_begun" = some (some (.ref f__law_begun)))
    (l__law_begun : K.lookup f__law_begun = some ⟨oc__law_begun, od__law_begun, .func (PySem.W.fnOf "_law_begun" "_law_begun" (defArgs st__law_begun) (defBody st__law_begun) (defScope st__law_begun) .none kV__law_begun dc__law_begun pm__law_begun an__law_begun cd__law_begun ct__law_begun), sl__law_begun⟩)
    (c__law_begun : PySem.W.codeIn K cd__law_begun "_law_begun" = true)
    (k__law_begun : PySem.W.keepIn K (.ref f__law_begun) = true)
    (a__law_mixed : PySem.W.nsIn K mainGlobals "_law_mixed" = some (some (.ref f__law_mixed)))
    (l__law_mixed : K.lookup f__law_mixed = some ⟨oc__law_mixed, od__law_mixed, .func (PySem.W.fnOf "_law_mixed" "_law_mixed" (defArgs st__law_mixed) (defBody st__law_mixed) (defScope st__law_mixed) .none kV__law_mixed dc__law_mixed pm__law_mixed an__law_mixed cd__law_mixed ct__law_mixed), sl__law_mixed⟩)
    (c__law_mixed : PySem.W.codeIn K cd__law_mixed "_law_mixed" = true)
    (k__law_mixed : PySem.W.keepIn K (.ref f__law_mixed) = true)
    (a__law_take : PySem.W.nsIn K mainGlobals "_law_take" = some (some (.ref f__law_take)))
    (l__law_take : K.lookup f__law_take = some ⟨oc__law_take, od__law_take, .func (PySem.W.fnOf "_law_take" "_law_take" (defArgs st__law_take) (defBody st__law_take) (defScope st__law_take) .none kV__law_take dc__law_take pm__law_take an__law_take cd__law_take ct__law_take), sl__law_take⟩)
    (c__law_take : PySem.W.codeIn K cd__law_take "_law_take" = true)
    (k__law_take : PySem.W.keepIn K (.ref f__law_take) = true)
    (a__law_pick : PySem.W.nsIn K mainGlobals "_law_pick" = some (some (.ref f__law_pick)))
    (l__law_pick : K.lookup f__law_pick = some ⟨oc__law_pick, od__law_pick, .func (PySem.W.fnOf "_law_pick" "_law_pick" (defArgs st__law_pick) (defBody st__law_pick) (defScope st__law_pick) .none kV__law_pick dc__law_pick pm__law_pick an__law_pick cd__law_pick ct__law_pick), sl__law_pick⟩)
    (c__law_pick : PySem.W.codeIn K cd__law_pick "_law_pick" = true)
    (k__law_pick : PySem.W.keepIn K (.ref f__law_pick) = true)
    (a__law_spots : PySem.W.nsIn K mainGlobals "_law_spots" = some (some (.ref f__law_spots)))
    (l__law_spots : K.lookup f__law_spots = some ⟨oc__law_spots, od__law_spots, .func (PySem.W.fnOf "_law_spots" "_law_spots" (defArgs st__law_spots) (defBody st__law_spots) (defScope st__law_spots) .none kV__law_spots dc__law_spots pm__law_spots an__law_spots cd__law_spots ct__law_spots), sl__law_spots⟩)
    (c__law_spots : PySem.W.codeIn K cd__law_spots "_law_spots" = true)
    (k__law_spots : PySem.W.keepIn K (.ref f__law_spots) = true)
    (a__law_wished_rows : PySem.W.nsIn K mainGlobals "_law_wished_rows" = some (some (.ref f__law_wished_rows)))
    (l__law_wished_rows : K.lookup f__law_wished_rows = some ⟨oc__law_wished_rows, od__law_wished_rows, .func (PySem.W.fnOf "_law_wished_rows" "_law_wished_rows" (defArgs st__law_wished_rows) (defBody st__law_wished_rows) (defScope st__law_wished_rows) .none kV__law_wished_rows dc__law_wished_rows pm__law_wished_rows an__law_wished_rows cd__law_wished_rows ct__law_wished_rows), sl__law_wished_rows⟩)
    (c__law_wished_rows : PySem.W.codeIn K cd__law_wished_rows "_law_wished_rows" = true)
    (k__law_wished_rows : PySem.W.keepIn K (.ref f__law_wished_rows) = true)
    (a__law_shuffled : PySem.W.nsIn K mainGlobals "_law_shuffled" = some (some (.ref f__law_shuffled)))
    (l__law_shuffled : K.lookup f__law_shuffled = some ⟨oc__law_shuffled, od__law_shuffled, .func (PySem.W.fnOf "_law_shuffled" "_law_shuffled" (defArgs st__law_shuffled) (defBody st__law_shuffled) (defScope st__law_shuffled) .none kV__law_shuffled dc__law_shuffled pm__law_shuffled an__law_shuffled cd__law_shuffled ct__law_shuffled), sl__law_shuffled⟩)
    (c__law_shuffled : PySem.W.codeIn K cd__law_shuffled "_law_shuffled" = true)
    (k__law_shuffled : PySem.W.keepIn K (.ref f__law_shuffled) = true)
    (a__law_node : PySem.W.nsIn K mainGlobals "_law_node" = some (some (.ref f__law_node)))
    (l__law_node : K.lookup f__law_node = some ⟨oc__law_node, od__law_node, .func (PySem.W.fnOf "_law_node" "_law_node" (defArgs st__law_node) (defBody st__law_node) (defScope st__law_node) .none kV__law_node dc__law_node pm__law_node an__law_node cd__law_node ct__law_node), sl__law_node⟩)
    (c__law_node : PySem.W.codeIn K cd__law_node "_law_node" = true)
    (k__law_node : PySem.W.keepIn K (.ref f__law_node) = true)
    (a__law_far_ring : PySem.W.nsIn K mainGlobals "_law_far_ring" = some (some (.ref f__law_far_ring)))
    (l__law_far_ring : K.lookup f__law_far_ring = some ⟨oc__law_far_ring, od__law_far_ring, .func (PySem.W.fnOf "_law_far_ring" "_law_far_ring" (defArgs st__law_far_ring) (defBody st__law_far_ring) (defScope st__law_far_ring) .none kV__law_far_ring dc__law_far_ring pm__law_far_ring an__law_far_ring cd__law_far_ring ct__law_far_ring), sl__law_far_ring⟩)
    (c__law_far_ring : PySem.W.codeIn K cd__law_far_ring "_law_far_ring" = true)
    (k__law_far_ring : PySem.W.keepIn K (.ref f__law_far_ring) = true)
    (a__law_is_int : PySem.W.nsIn K mainGlobals "_law_is_int" = some (some (.ref f__law_is_int)))
    (l__law_is_int : K.lookup f__law_is_int = some ⟨oc__law_is_int, od__law_is_int, .func (PySem.W.fnOf "_law_is_int" "_law_is_int" (defArgs st__law_is_int) (defBody st__law_is_int) (defScope st__law_is_int) .none kV__law_is_int dc__law_is_int pm__law_is_int an__law_is_int cd__law_is_int ct__law_is_int), sl__law_is_int⟩)
    (c__law_is_int : PySem.W.codeIn K cd__law_is_int "_law_is_int" = true)
    (k__law_is_int : PySem.W.keepIn K (.ref f__law_is_int) = true)
    (a__law_row_wishes : PySem.W.nsIn K mainGlobals "_law_row_wishes" = some (some (.ref f__law_row_wishes)))
    (l__law_row_wishes : K.lookup f__law_row_wishes = some ⟨oc__law_row_wishes, od__law_row_wishes, .func (PySem.W.fnOf "_law_row_wishes" "_law_row_wishes" (defArgs st__law_row_wishes) (defBody st__law_row_wishes) (defScope st__law_row_wishes) .none kV__law_row_wishes dc__law_row_wishes pm__law_row_wishes an__law_row_wishes cd__law_row_wishes ct__law_row_wishes), sl__law_row_wishes⟩)
    (c__law_row_wishes : PySem.W.codeIn K cd__law_row_wishes "_law_row_wishes" = true)
    (k__law_row_wishes : PySem.W.keepIn K (.ref f__law_row_wishes) = true)
    (a__law_knot_wishes : PySem.W.nsIn K mainGlobals "_law_knot_wishes" = some (some (.ref f__law_knot_wishes)))
    (l__law_knot_wishes : K.lookup f__law_knot_wishes = some ⟨oc__law_knot_wishes, od__law_knot_wishes, .func (PySem.W.fnOf "_law_knot_wishes" "_law_knot_wishes" (defArgs st__law_knot_wishes) (defBody st__law_knot_wishes) (defScope st__law_knot_wishes) .none kV__law_knot_wishes dc__law_knot_wishes pm__law_knot_wishes an__law_knot_wishes cd__law_knot_wishes ct__law_knot_wishes), sl__law_knot_wishes⟩)
    (c__law_knot_wishes : PySem.W.codeIn K cd__law_knot_wishes "_law_knot_wishes" = true)
    (k__law_knot_wishes : PySem.W.keepIn K (.ref f__law_knot_wishes) = true)
    (a__law_number_of : PySem.W.nsIn K mainGlobals "_law_number_of" = some (some (.ref f__law_number_of)))
    (l__law_number_of : K.lookup f__law_number_of = some ⟨oc__law_number_of, od__law_number_of, .func (PySem.W.fnOf "_law_number_of" "_law_number_of" (defArgs st__law_number_of) (defBody st__law_number_of) (defScope st__law_number_of) .none kV__law_number_of dc__law_number_of pm__law_number_of an__law_number_of cd__law_number_of ct__law_number_of), sl__law_number_of⟩)
    (c__law_number_of : PySem.W.codeIn K cd__law_number_of "_law_number_of" = true)
    (k__law_number_of : PySem.W.keepIn K (.ref f__law_number_of) = true)
    (a__law_is_far_ring : PySem.W.nsIn K mainGlobals "_law_is_far_ring" = some (some (.ref f__law_is_far_ring)))
    (l__law_is_far_ring : K.lookup f__law_is_far_ring = some ⟨oc__law_is_far_ring, od__law_is_far_ring, .func (PySem.W.fnOf "_law_is_far_ring" "_law_is_far_ring" (defArgs st__law_is_far_ring) (defBody st__law_is_far_ring) (defScope st__law_is_far_ring) .none kV__law_is_far_ring dc__law_is_far_ring pm__law_is_far_ring an__law_is_far_ring cd__law_is_far_ring ct__law_is_far_ring), sl__law_is_far_ring⟩)
    (c__law_is_far_ring : PySem.W.codeIn K cd__law_is_far_ring "_law_is_far_ring" = true)
    (k__law_is_far_ring : PySem.W.keepIn K (.ref f__law_is_far_ring) = true)
    (a__law_says : PySem.W.nsIn K mainGlobals "_law_says" = some (some (.ref f__law_says)))
    (l__law_says : K.lookup f__law_says = some ⟨oc__law_says, od__law_says, .func (PySem.W.fnOf "_law_says" "_law_says" (defArgs st__law_says) (defBody st__law_says) (defScope st__law_says) .none kV__law_says dc__law_says pm__law_says an__law_says cd__law_says ct__law_says), sl__law_says⟩)
    (c__law_says : PySem.W.codeIn K cd__law_says "_law_says" = true)
    (k__law_says : PySem.W.keepIn K (.ref f__law_says) = true)
    (a_spots_of : PySem.W.nsIn K mainGlobals "spots_of" = some (some (.ref f_spots_of)))
    (l_spots_of : K.lookup f_spots_of = some ⟨oc_spots_of, od_spots_of, .func (PySem.W.fnOf "spots_of" "spots_of" (defArgs st_spots_of) (defBody st_spots_of) (defScope st_spots_of) .none kV_spots_of dc_spots_of pm_spots_of an_spots_of cd_spots_of ct_spots_of), sl_spots_of⟩)
    (c_spots_of : PySem.W.codeIn K cd_spots_of "spots_of" = true)
    (k_spots_of : PySem.W.keepIn K (.ref f_spots_of) = true)
    (a_are_rows_of : PySem.W.nsIn K mainGlobals "are_rows_of" = some (some (.ref f_are_rows_of)))
    (l_are_rows_of : K.lookup f_are_rows_of = some ⟨oc_are_rows_of, od_are_rows_of, .func (PySem.W.fnOf "are_rows_of" "are_rows_of" (defArgs st_are_rows_of) (defBody st_are_rows_of) (defScope st_are_rows_of) .none kV_are_rows_of dc_are_rows_of pm_are_rows_of an_are_rows_of cd_are_rows_of ct_are_rows_of), sl_are_rows_of⟩)
    (c_are_rows_of : PySem.W.codeIn K cd_are_rows_of "are_rows_of" = true)
    (k_are_rows_of : PySem.W.keepIn K (.ref f_are_rows_of) = true)
    (a_is_number : PySem.W.nsIn K mainGlobals "is_number" = some (some (.ref f_is_number)))
    (l_is_number : K.lookup f_is_number = some ⟨oc_is_number, od_is_number, .func (PySem.W.fnOf "is_number" "is_number" (defArgs st_is_number) (defBody st_is_number) (defScope st_is_number) .none kV_is_number dc_is_number pm_is_number an_is_number cd_is_number ct_is_number), sl_is_number⟩)
    (c_is_number : PySem.W.codeIn K cd_is_number "is_number" = true)
    (k_is_number : PySem.W.keepIn K (.ref f_is_number) = true)
    (a_is_wish : PySem.W.nsIn K mainGlobals "is_wish" = some (some (.ref f_is_wish)))
    (l_is_wish : K.lookup f_is_wish = some ⟨oc_is_wish, od_is_wish, .func (PySem.W.fnOf "is_wish" "is_wish" (defArgs st_is_wish) (defBody st_is_wish) (defScope st_is_wish) .none kV_is_wish dc_is_wish pm_is_wish an_is_wish cd_is_wish ct_is_wish), sl_is_wish⟩)
    (c_is_wish : PySem.W.codeIn K cd_is_wish "is_wish" = true)
    (k_is_wish : PySem.W.keepIn K (.ref f_is_wish) = true)
    (a_is_knot_wish : PySem.W.nsIn K mainGlobals "is_knot_wish" = some (some (.ref f_is_knot_wish)))
    (l_is_knot_wish : K.lookup f_is_knot_wish = some ⟨oc_is_knot_wish, od_is_knot_wish, .func (PySem.W.fnOf "is_knot_wish" "is_knot_wish" (defArgs st_is_knot_wish) (defBody st_is_knot_wish) (defScope st_is_knot_wish) .none kV_is_knot_wish dc_is_knot_wish pm_is_knot_wish an_is_knot_wish cd_is_knot_wish ct_is_knot_wish), sl_is_knot_wish⟩)
    (c_is_knot_wish : PySem.W.codeIn K cd_is_knot_wish "is_knot_wish" = true)
    (k_is_knot_wish : PySem.W.keepIn K (.ref f_is_knot_wish) = true)
    (a_is_motif : PySem.W.nsIn K mainGlobals "is_motif" = some (some (.ref f_is_motif)))
    (l_is_motif : K.lookup f_is_motif = some ⟨oc_is_motif, od_is_motif, .func (PySem.W.fnOf "is_motif" "is_motif" (defArgs st_is_motif) (defBody st_is_motif) (defScope st_is_motif) .none kV_is_motif dc_is_motif pm_is_motif an_is_motif cd_is_motif ct_is_motif), sl_is_motif⟩)
    (c_is_motif : PySem.W.codeIn K cd_is_motif "is_motif" = true)
    (k_is_motif : PySem.W.keepIn K (.ref f_is_motif) = true)
    (a_need_motif : PySem.W.nsIn K mainGlobals "need_motif" = some (some (.ref f_need_motif)))
    (l_need_motif : K.lookup f_need_motif = some ⟨oc_need_motif, od_need_motif, .func (PySem.W.fnOf "need_motif" "need_motif" (defArgs st_need_motif) (defBody st_need_motif) (defScope st_need_motif) .none kV_need_motif dc_need_motif pm_need_motif an_need_motif cd_need_motif ct_need_motif), sl_need_motif⟩)
    (c_need_motif : PySem.W.codeIn K cd_need_motif "need_motif" = true)
    (k_need_motif : PySem.W.keepIn K (.ref f_need_motif) = true)
    (a_need_start : PySem.W.nsIn K mainGlobals "need_start" = some (some (.ref f_need_start)))
    (l_need_start : K.lookup f_need_start = some ⟨oc_need_start, od_need_start, .func (PySem.W.fnOf "need_start" "need_start" (defArgs st_need_start) (defBody st_need_start) (defScope st_need_start) .none kV_need_start dc_need_start pm_need_start an_need_start cd_need_start ct_need_start), sl_need_start⟩)
    (c_need_start : PySem.W.codeIn K cd_need_start "need_start" = true)
    (k_need_start : PySem.W.keepIn K (.ref f_need_start) = true)
    (a_is_wish_form : PySem.W.nsIn K mainGlobals "is_wish_form" = some (some (.ref f_is_wish_form)))
    (l_is_wish_form : K.lookup f_is_wish_form = some ⟨oc_is_wish_form, od_is_wish_form, .func (PySem.W.fnOf "is_wish_form" "is_wish_form" (defArgs st_is_wish_form) (defBody st_is_wish_form) (defScope st_is_wish_form) .none kV_is_wish_form dc_is_wish_form pm_is_wish_form an_is_wish_form cd_is_wish_form ct_is_wish_form), sl_is_wish_form⟩)
    (c_is_wish_form : PySem.W.codeIn K cd_is_wish_form "is_wish_form" = true)
    (k_is_wish_form : PySem.W.keepIn K (.ref f_is_wish_form) = true)
    (a_Web_tell : PySem.W.findIn K (.ref C_Web) "tell" = some (some (.ref f_Web_tell)))
    (i_Web_tell : PySem.W.isFn K (.ref f_Web_tell) = true)
    (l_Web_tell : K.lookup f_Web_tell = some ⟨oc_Web_tell, od_Web_tell, .func (PySem.W.fnOf "tell" "Web.tell" (defArgs st_Web_tell) (defBody st_Web_tell) (defScope st_Web_tell) .none kV_Web_tell dc_Web_tell pm_Web_tell an_Web_tell cd_Web_tell ct_Web_tell), sl_Web_tell⟩)
    (c_Web_tell : PySem.W.codeIn K cd_Web_tell "Web.tell" = true)
    (k_Web_tell : PySem.W.keepIn K (.ref f_Web_tell) = true)
    (a_node : PySem.W.nsIn K mainGlobals "node" = some (some (.ref f_node)))
    (l_node : K.lookup f_node = some ⟨oc_node, od_node, .func (PySem.W.fnOf "node" "node" (defArgs st_node) (defBody st_node) (defScope st_node) .none kV_node dc_node pm_node an_node cd_node ct_node), sl_node⟩)
    (c_node : PySem.W.codeIn K cd_node "node" = true)
    (k_node : PySem.W.keepIn K (.ref f_node) = true)
    (a_Web_at : PySem.W.findIn K (.ref C_Web) "at" = some (some (.ref f_Web_at)))
    (i_Web_at : PySem.W.isFn K (.ref f_Web_at) = true)
    (l_Web_at : K.lookup f_Web_at = some ⟨oc_Web_at, od_Web_at, .func (PySem.W.fnOf "at" "Web.at" (defArgs st_Web_at) (defBody st_Web_at) (defScope st_Web_at) .none kV_Web_at dc_Web_at pm_Web_at an_Web_at cd_Web_at ct_Web_at), sl_Web_at⟩)
    (c_Web_at : PySem.W.codeIn K cd_Web_at "Web.at" = true)
    (k_Web_at : PySem.W.keepIn K (.ref f_Web_at) = true)
    (a_Web_tell_knot : PySem.W.findIn K (.ref C_Web) "tell_knot" = some (some (.ref f_Web_tell_knot)))
    (i_Web_tell_knot : PySem.W.isFn K (.ref f_Web_tell_knot) = true)
    (l_Web_tell_knot : K.lookup f_Web_tell_knot = some ⟨oc_Web_tell_knot, od_Web_tell_knot, .func (PySem.W.fnOf "tell_knot" "Web.tell_knot" (defArgs st_Web_tell_knot) (defBody st_Web_tell_knot) (defScope st_Web_tell_knot) .none kV_Web_tell_knot dc_Web_tell_knot pm_Web_tell_knot an_Web_tell_knot cd_Web_tell_knot ct_Web_tell_knot), sl_Web_tell_knot⟩)
    (c_Web_tell_knot : PySem.W.codeIn K cd_Web_tell_knot "Web.tell_knot" = true)
    (k_Web_tell_knot : PySem.W.keepIn K (.ref f_Web_tell_knot) = true)
    (a_Web_tell_line : PySem.W.findIn K (.ref C_Web) "tell_line" = some (some (.ref f_Web_tell_line)))
    (i_Web_tell_line : PySem.W.isFn K (.ref f_Web_tell_line) = true)
    (l_Web_tell_line : K.lookup f_Web_tell_line = some ⟨oc_Web_tell_line, od_Web_tell_line, .func (PySem.W.fnOf "tell_line" "Web.tell_line" (defArgs st_Web_tell_line) (defBody st_Web_tell_line) (defScope st_Web_tell_line) .none kV_Web_tell_line dc_Web_tell_line pm_Web_tell_line an_Web_tell_line cd_Web_tell_line ct_Web_tell_line), sl_Web_tell_line⟩)
    (c_Web_tell_line : PySem.W.codeIn K cd_Web_tell_line "Web.tell_line" = true)
    (k_Web_tell_line : PySem.W.keepIn K (.ref f_Web_tell_line) = true)
    (a_Web___init__ : PySem.W.findIn K (.ref C_Web) "__init__" = some (some (.ref f_Web___init__)))
    (i_Web___init__ : PySem.W.isFn K (.ref f_Web___init__) = true)
    (l_Web___init__ : K.lookup f_Web___init__ = some ⟨oc_Web___init__, od_Web___init__, .func (PySem.W.fnOf "__init__" "Web.__init__" (defArgs st_Web___init__) (defBody st_Web___init__) (defScope st_Web___init__) .none kV_Web___init__ dc_Web___init__ pm_Web___init__ an_Web___init__ cd_Web___init__ ct_Web___init__), sl_Web___init__⟩)
    (c_Web___init__ : PySem.W.codeIn K cd_Web___init__ "Web.__init__" = true)
    (k_Web___init__ : PySem.W.keepIn K (.ref f_Web___init__) = true)
    (a_task_of_motifs : PySem.W.nsIn K mainGlobals "task_of_motifs" = some (some (.ref f_task_of_motifs)))
    (l_task_of_motifs : K.lookup f_task_of_motifs = some ⟨oc_task_of_motifs, od_task_of_motifs, .func (PySem.W.fnOf "task_of_motifs" "task_of_motifs" (defArgs st_task_of_motifs) (defBody st_task_of_motifs) (defScope st_task_of_motifs) .none kV_task_of_motifs dc_task_of_motifs pm_task_of_motifs an_task_of_motifs cd_task_of_motifs ct_task_of_motifs), sl_task_of_motifs⟩)
    (c_task_of_motifs : PySem.W.codeIn K cd_task_of_motifs "task_of_motifs" = true)
    (k_task_of_motifs : PySem.W.keepIn K (.ref f_task_of_motifs) = true)
    (a_brought_near : PySem.W.nsIn K mainGlobals "brought_near" = some (some (.ref f_brought_near)))
    (l_brought_near : K.lookup f_brought_near = some ⟨oc_brought_near, od_brought_near, .func (PySem.W.fnOf "brought_near" "brought_near" (defArgs st_brought_near) (defBody st_brought_near) (defScope st_brought_near) .none kV_brought_near dc_brought_near pm_brought_near an_brought_near cd_brought_near ct_brought_near), sl_brought_near⟩)
    (c_brought_near : PySem.W.codeIn K cd_brought_near "brought_near" = true)
    (k_brought_near : PySem.W.keepIn K (.ref f_brought_near) = true)
    (a_is_never : PySem.W.nsIn K mainGlobals "is_never" = some (some (.ref f_is_never)))
    (l_is_never : K.lookup f_is_never = some ⟨oc_is_never, od_is_never, .func (PySem.W.fnOf "is_never" "is_never" (defArgs st_is_never) (defBody st_is_never) (defScope st_is_never) .none kV_is_never dc_is_never pm_is_never an_is_never cd_is_never ct_is_never), sl_is_never⟩)
    (c_is_never : PySem.W.codeIn K cd_is_never "is_never" = true)
    (k_is_never : PySem.W.keepIn K (.ref f_is_never) = true)
    (a_is_lasting_paper : PySem.W.nsIn K mainGlobals "is_lasting_paper" = some (some (.ref f_is_lasting_paper)))
    (l_is_lasting_paper : K.lookup f_is_lasting_paper = some ⟨oc_is_lasting_paper, od_is_lasting_paper, .func (PySem.W.fnOf "is_lasting_paper" "is_lasting_paper" (defArgs st_is_lasting_paper) (defBody st_is_lasting_paper) (defScope st_is_lasting_paper) .none kV_is_lasting_paper dc_is_lasting_paper pm_is_lasting_paper an_is_lasting_paper cd_is_lasting_paper ct_is_lasting_paper), sl_is_lasting_paper⟩)
    (c_is_lasting_paper : PySem.W.codeIn K cd_is_lasting_paper "is_lasting_paper" = true)
    (k_is_lasting_paper : PySem.W.keepIn K (.ref f_is_lasting_paper) = true)
    (a_law : PySem.W.nsIn K mainGlobals "law" = some (some (.ref f_law)))
    (l_law : K.lookup f_law = some ⟨oc_law, od_law, .func (PySem.W.fnOf "law" "law" (defArgs st_law) (defBody st_law) (defScope st_law) .none kV_law dc_law pm_law an_law cd_law ct_law), sl_law⟩)
    (c_law : PySem.W.codeIn K cd_law "law" = true)
    (k_law : PySem.W.keepIn K (.ref f_law) = true)
    (z_abs : PySem.W.nsIn K mainGlobals "abs" = some none)
    (z_all : PySem.W.nsIn K mainGlobals "all" = some none)
    (z_bool : PySem.W.nsIn K mainGlobals "bool" = some none)
    (z_enumerate : PySem.W.nsIn K mainGlobals "enumerate" = some none)
    (z_int : PySem.W.nsIn K mainGlobals "int" = some none)
    (z_isinstance : PySem.W.nsIn K mainGlobals "isinstance" = some none)
    (z_len : PySem.W.nsIn K mainGlobals "len" = some none)
    (z_list : PySem.W.nsIn K mainGlobals "list" = some none)
    (z_max : PySem.W.nsIn K mainGlobals "max" = some none)
    (z_min : PySem.W.nsIn K mainGlobals "min" = some none)
    (z_range : PySem.W.nsIn K mainGlobals "range" = some none)
    (z_set : PySem.W.nsIn K mainGlobals "set" = some none)
    (z_sorted : PySem.W.nsIn K mainGlobals "sorted" = some none)
    (z_str : PySem.W.nsIn K mainGlobals "str" = some none)
    (z_sum : PySem.W.nsIn K mainGlobals "sum" = some none)
    (z_tuple : PySem.W.nsIn K mainGlobals "tuple" = some none)
    (z_zip : PySem.W.nsIn K mainGlobals "zip" = some none)
    (g_MOST_ROWS : PySem.W.nsIn K mainGlobals "MOST_ROWS" = some (some (.int 60 t1)))
    (g_MOST_THREADS : PySem.W.nsIn K mainGlobals "MOST_THREADS" = some (some (.int 16 t2)))
    (g_NEAR_MOTIFS : PySem.W.nsIn K mainGlobals "NEAR_MOTIFS" = some (some (.int 3 t3)))
    (g_PAIRS : PySem.W.nsIn K mainGlobals "PAIRS" = some (some (.ref p4)))
    (t_4 : K.lookup p4 = some ⟨.type "tuple", od4, .seq #[.ref p5, .ref p8, .ref p11] n4, sl4⟩)
    (t_5 : K.lookup p5 = some ⟨.type "tuple", od5, .seq #[.int 0 t6, .int 0 t7] n5, sl5⟩)
    (t_8 : K.lookup p8 = some ⟨.type "tuple", od8, .seq #[.int 0 t9, .int 1 t10] n8, sl8⟩)
    (t_11 : K.lookup p11 = some ⟨.type "tuple", od11, .seq #[.int 1 t12, .int 1 t13] n11, sl11⟩) :
    ∃ fd : FuncData, (∀ (s : Shared) (v : Value), BindsTo s fd ⟨[v], []⟩ [("script", v)]) ∧ ∀ base : Heap, K.In base → base.Ns mainGlobals mg → FnOk P w K mg base CX0 8 fa fd ["script"] (spLaw K) := by
  have e := hfa.symm.trans (PySem.W.mg_of X G a_law)
  cases e
  have T : Txt K mg C_Web := ⟨PySem.W.mg_none_of X G z_abs, PySem.W.mg_none_of X G z_all, PySem.W.mg_none_of X G z_bool, PySem.W.mg_none_of X G z_enumerate, PySem.W.mg_none_of X G z_int, PySem.W.mg_none_of X G z_isinstance, PySem.W.mg_none_of X G z_len, PySem.W.mg_none_of X G z_list, PySem.W.mg_none_of X G z_max, PySem.W.mg_none_of X G z_min, PySem.W.mg_none_of X G z_range, PySem.W.mg_none_of X G z_set, PySem.W.mg_none_of X G z_sorted, PySem.W.mg_none_of X G z_str, PySem.W.mg_none_of X G z_sum, PySem.W.mg_none_of X G z_tuple, PySem.W.mg_none_of X G z_zip, ⟨.int (60), _, PySem.W.mg_of X G g_MOST_ROWS, ⟨_, rfl⟩, fun H => rfl⟩, ⟨.int (16), _, PySem.W.mg_of X G g_MOST_THREADS, ⟨_, rfl⟩, fun H => rfl⟩, ⟨.int (3), _, PySem.W.mg_of X G g_NEAR_MOTIFS, ⟨_, rfl⟩, fun H => rfl⟩, ⟨.ref p4, _, PySem.W.mg_of X G g_PAIRS, rfl, fun H => ⟨p4, [.ref p5, .ref p8, .ref p11], rfl, .inr ⟨_, _, _, t_4, rfl, rfl, (le_line (n := 3) (by decide)), (.cons rfl (.cons rfl (.cons rfl .nil)))⟩, ⟨_, _, rfl, ⟨p5, [.int (0), .int (0)], rfl, .inr ⟨_, _, _, t_5, rfl, rfl, (le_line (n := 2) (by decide)), (.cons ⟨_, rfl⟩ (.cons ⟨_, rfl⟩ .nil))⟩, ⟨_, _, rfl, rfl, ⟨_, _, rfl, rfl, rfl⟩⟩⟩, ⟨_, _, rfl, ⟨p8, [.int (0), .int (1)], rfl, .inr ⟨_, _, _, t_8, rfl, rfl, (le_line (n := 2) (by decide)), (.cons ⟨_, rfl⟩ (.cons ⟨_, rfl⟩ .nil))⟩, ⟨_, _, rfl, rfl, ⟨_, _, rfl, rfl, rfl⟩⟩⟩, ⟨_, _, rfl, ⟨p11, [.int (1), .int (1)], rfl, .inr ⟨_, _, _, t_11, rfl, rfl, (le_line (n := 2) (by decide)), (.cons ⟨_, rfl⟩ (.cons ⟨_, rfl⟩ .nil))⟩, ⟨_, _, rfl, rfl, ⟨_, _, rfl, rfl, rfl⟩⟩⟩, rfl⟩⟩⟩⟩⟩, ⟨pg_Web, hd_Web, po_Web, sa_Web⟩, n_Web_many, n_Web_threads, n_Web_told⟩
  refine ⟨PySem.W.fnOf "law" "law" (defArgs st_law) (defBody st_law) (defScope st_law) .none kV_law dc_law pm_law an_law cd_law ct_law, fun s v => .of_eq rfl, fun base _ _ => ?_⟩
  have F__law_begun : FunAt K "_law_begun" "_law_begun" st__law_begun f__law_begun P__law_begun := funAt l__law_begun c__law_begun k__law_begun fun _ _ _ _ _ _ us hl => match us, hl with | [_], _ => rfl
  have q__law_begun : FnQ P w K mg base 1 f__law_begun (sp__law_begun) := fnAt F__law_begun sc__law_begun (bd__law_begun T)
  have d__law_begun : DefQ P w K mg base 1 "_law_begun" (sp__law_begun) := ⟨f__law_begun, PySem.W.mg_of X G a__law_begun, q__law_begun⟩
  have F__law_mixed : FunAt K "_law_mixed" "_law_mixed" st__law_mixed f__law_mixed P__law_mixed := funAt l__law_mixed c__law_mixed k__law_mixed fun _ _ _ _ _ _ us hl => match us, hl with | [_], _ => rfl
  have q__law_mixed : FnQ P w K mg base 1 f__law_mixed (sp__law_mixed) := fnAt F__law_mixed sc__law_mixed (bd__law_mixed T)
  have d__law_mixed : DefQ P w K mg base 1 "_law_mixed" (sp__law_mixed) := ⟨f__law_mixed, PySem.W.mg_of X G a__law_mixed, q__law_mixed⟩
  have F__law_take : FunAt K "_law_take" "_law_take" st__law_take f__law_take P__law_take := funAt l__law_take c__law_take k__law_take fun _ _ _ _ _ _ us hl => match us, hl with | [_, _], _ => rfl
  have q__law_take : FnQ P w K mg base 2 f__law_take (sp__law_take) := fnAt F__law_take sc__law_take (bd__law_take T d__law_mixed)
  have d__law_take : DefQ P w K mg base 2 "_law_take" (sp__law_take) := ⟨f__law_take, PySem.W.mg_of X G a__law_take, q__law_take⟩
  have F__law_pick : FunAt K "_law_pick" "_law_pick" st__law_pick f__law_pick P__law_pick := funAt l__law_pick c__law_pick k__law_pick fun _ _ _ _ _ _ us hl => match us, hl with | [_, _], _ => rfl
  have q__law_pick : FnQ P w K mg base 3 f__law_pick (sp__law_pick) := fnAt F__law_pick sc__law_pick (bd__law_pick T d__law_take)
  have d__law_pick : DefQ P w K mg base 3 "_law_pick" (sp__law_pick) := ⟨f__law_pick, PySem.W.mg_of X G a__law_pick, q__law_pick⟩
  have F__law_spots : FunAt K "_law_spots" "_law_spots" st__law_spots f__law_spots P__law_spots := funAt l__law_spots c__law_spots k__law_spots fun _ _ _ _ _ _ us hl => match us, hl with | [_, _], _ => rfl
  have q__law_spots : FnQ P w K mg base 1 f__law_spots (sp__law_spots) := fnAt F__law_spots sc__law_spots (bd__law_spots T)
  have d__law_spots : DefQ P w K mg base 1 "_law_spots" (sp__law_spots) := ⟨f__law_spots, PySem.W.mg_of X G a__law_spots, q__law_spots⟩
  have F__law_wished_rows : FunAt K "_law_wished_rows" "_law_wished_rows" st__law_wished_rows f__law_wished_rows P__law_wished_rows := funAt l__law_wished_rows c__law_wished_rows k__law_wished_rows fun _ _ _ _ _ _ us hl => match us, hl with | [_, _, _, _], _ => rfl
  have q__law_wished_rows : FnQ P w K mg base 4 f__law_wished_rows (sp__law_wished_rows) := fnAt F__law_wished_rows sc__law_wished_rows (bd__law_wished_rows T d__law_pick d__law_spots d__law_take)
  have d__law_wished_rows : DefQ P w K mg base 4 "_law_wished_rows" (sp__law_wished_rows) := ⟨f__law_wished_rows, PySem.W.mg_of X G a__law_wished_rows, q__law_wished_rows⟩
  have F__law_shuffled : FunAt K "_law_shuffled" "_law_shuffled" st__law_shuffled f__law_shuffled P__law_shuffled := funAt l__law_shuffled c__law_shuffled k__law_shuffled fun _ _ _ _ _ _ us hl => match us, hl with | [_, _], _ => rfl
  have q__law_shuffled : FnQ P w K mg base 3 f__law_shuffled (sp__law_shuffled) := fnAt F__law_shuffled sc__law_shuffled (bd__law_shuffled T d__law_take)
  have d__law_shuffled : DefQ P w K mg base 3 "_law_shuffled" (sp__law_shuffled) := ⟨f__law_shuffled, PySem.W.mg_of X G a__law_shuffled, q__law_shuffled⟩
  have F__law_node : FunAt K "_law_node" "_law_node" st__law_node f__law_node P__law_node := funAt l__law_node c__law_node k__law_node fun _ _ _ _ _ _ us hl => match us, hl with | [_, _, _], _ => rfl
  have q__law_node : FnQ P w K mg base 1 f__law_node (sp__law_node) := fnAt F__law_node sc__law_node (bd__law_node T)
  have d__law_node : DefQ P w K mg base 1 "_law_node" (sp__law_node) := ⟨f__law_node, PySem.W.mg_of X G a__law_node, q__law_node⟩
  have F__law_far_ring : FunAt K "_law_far_ring" "_law_far_ring" st__law_far_ring f__law_far_ring P__law_far_ring := funAt l__law_far_ring c__law_far_ring k__law_far_ring fun _ _ _ _ _ _ us hl => match us, hl with | [_, _, _, _], _ => rfl
  have q__law_far_ring : FnQ P w K mg base 2 f__law_far_ring (sp__law_far_ring) := fnAt F__law_far_ring sc__law_far_ring (bd__law_far_ring T d__law_spots d__law_node)
  have d__law_far_ring : DefQ P w K mg base 2 "_law_far_ring" (sp__law_far_ring) := ⟨f__law_far_ring, PySem.W.mg_of X G a__law_far_ring, q__law_far_ring⟩
  have F__law_is_int : FunAt K "_law_is_int" "_law_is_int" st__law_is_int f__law_is_int P__law_is_int := funAt l__law_is_int c__law_is_int k__law_is_int fun _ _ _ _ _ _ us hl => match us, hl with | [_, _, _], _ => rfl
  have q__law_is_int : FnQ P w K mg base 1 f__law_is_int (sp__law_is_int) := fnAt F__law_is_int sc__law_is_int (bd__law_is_int T)
  have d__law_is_int : DefQ P w K mg base 1 "_law_is_int" (sp__law_is_int) := ⟨f__law_is_int, PySem.W.mg_of X G a__law_is_int, q__law_is_int⟩
  have F__law_row_wishes : FunAt K "_law_row_wishes" "_law_row_wishes" st__law_row_wishes f__law_row_wishes P__law_row_wishes := funAt l__law_row_wishes c__law_row_wishes k__law_row_wishes fun _ _ _ _ _ _ us hl => match us, hl with | [_, _, _], _ => rfl
  have q__law_row_wishes : FnQ P w K mg base 2 f__law_row_wishes (sp__law_row_wishes) := fnAt F__law_row_wishes sc__law_row_wishes (bd__law_row_wishes T d__law_node)
  have d__law_row_wishes : DefQ P w K mg base 2 "_law_row_wishes" (sp__law_row_wishes) := ⟨f__law_row_wishes, PySem.W.mg_of X G a__law_row_wishes, q__law_row_wishes⟩
  have F__law_knot_wishes : FunAt K "_law_knot_wishes" "_law_knot_wishes" st__law_knot_wishes f__law_knot_wishes P__law_knot_wishes := funAt l__law_knot_wishes c__law_knot_wishes k__law_knot_wishes fun _ _ _ _ _ _ us hl => match us, hl with | [_, _, _], _ => rfl
  have q__law_knot_wishes : FnQ P w K mg base 1 f__law_knot_wishes (sp__law_knot_wishes) := fnAt F__law_knot_wishes sc__law_knot_wishes (bd__law_knot_wishes T)
  have d__law_knot_wishes : DefQ P w K mg base 1 "_law_knot_wishes" (sp__law_knot_wishes) := ⟨f__law_knot_wishes, PySem.W.mg_of X G a__law_knot_wishes, q__law_knot_wishes⟩
  have F__law_number_of : FunAt K "_law_number_of" "_law_number_of" st__law_number_of f__law_number_of P__law_number_of := funAt l__law_number_of c__law_number_of k__law_number_of fun _ _ _ _ _ _ us hl => match us, hl with | [_, _, _, _, _, _], _ => rfl
  have q__law_number_of : FnQ P w K mg base 3 f__law_number_of (sp__law_number_of) := fnAt F__law_number_of sc__law_number_of (bd__law_number_of T d__law_row_wishes d__law_spots d__law_knot_wishes d__law_node)
  have d__law_number_of : DefQ P w K mg base 3 "_law_number_of" (sp__law_number_of) := ⟨f__law_number_of, PySem.W.mg_of X G a__law_number_of, q__law_number_of⟩
  have F__law_is_far_ring : FunAt K "_law_is_far_ring" "_law_is_far_ring" st__law_is_far_ring f__law_is_far_ring P__law_is_far_ring := funAt l__law_is_far_ring c__law_is_far_ring k__law_is_far_ring fun _ _ _ _ _ _ us hl => match us, hl with | [_, _, _, _], _ => rfl
  have q__law_is_far_ring : FnQ P w K mg base 4 f__law_is_far_ring (sp__law_is_far_ring) := fnAt F__law_is_far_ring sc__law_is_far_ring (bd__law_is_far_ring T d__law_is_int d__law_number_of)
  have d__law_is_far_ring : DefQ P w K mg base 4 "_law_is_far_ring" (sp__law_is_far_ring) := ⟨f__law_is_far_ring, PySem.W.mg_of X G a__law_is_far_ring, q__law_is_far_ring⟩
  have F__law_says : FunAt K "_law_says" "_law_says" st__law_says f__law_says P__law_says := funAt l__law_says c__law_says k__law_says fun _ _ _ _ _ _ us hl => match us, hl with | [_, _], _ => rfl
  have q__law_says : FnQ P w K mg base 1 f__law_says (sp__law_says) := fnAt F__law_says sc__law_says (bd__law_says T)
  have d__law_says : DefQ P w K mg base 1 "_law_says" (sp__law_says) := ⟨f__law_says, PySem.W.mg_of X G a__law_says, q__law_says⟩
  have F_spots_of : FunAt K "spots_of" "spots_of" st_spots_of f_spots_of P_spots_of := funAt l_spots_of c_spots_of k_spots_of fun _ _ _ _ _ _ us hl => match us, hl with | [_, _], _ => rfl
  have q_spots_of : FnQ P w K mg base 1 f_spots_of (sp_spots_of) := fnAt F_spots_of sc_spots_of (bd_spots_of T)
  have d_spots_of : DefQ P w K mg base 1 "spots_of" (sp_spots_of) := ⟨f_spots_of, PySem.W.mg_of X G a_spots_of, q_spots_of⟩
  have F_are_rows_of : FunAt K "are_rows_of" "are_rows_of" st_are_rows_of f_are_rows_of P_are_rows_of := funAt l_are_rows_of c_are_rows_of k_are_rows_of fun _ _ _ _ _ _ us hl => match us, hl with | [_, _], _ => rfl
  have q_are_rows_of : FnQ P w K mg base 2 f_are_rows_of (sp_are_rows_of) := fnAt F_are_rows_of sc_are_rows_of (bd_are_rows_of T d_spots_of)
  have d_are_rows_of : DefQ P w K mg base 2 "are_rows_of" (sp_are_rows_of) := ⟨f_are_rows_of, PySem.W.mg_of X G a_are_rows_of, q_are_rows_of⟩
  have F_is_number : FunAt K "is_number" "is_number" st_is_number f_is_number P_is_number := funAt l_is_number c_is_number k_is_number fun _ _ _ _ _ _ us hl => match us, hl with | [_, _, _], _ => rfl
  have q_is_number : FnQ P w K mg base 1 f_is_number (sp_is_number) := fnAt F_is_number sc_is_number (bd_is_number T)
  have d_is_number : DefQ P w K mg base 1 "is_number" (sp_is_number) := ⟨f_is_number, PySem.W.mg_of X G a_is_number, q_is_number⟩
  have F_is_wish : FunAt K "is_wish" "is_wish" st_is_wish f_is_wish P_is_wish := funAt l_is_wish c_is_wish k_is_wish fun _ _ _ _ _ _ us hl => match us, hl with | [_], _ => rfl
  have q_is_wish : FnQ P w K mg base 2 f_is_wish (sp_is_wish) := fnAt F_is_wish sc_is_wish (bd_is_wish T d_is_number)
  have d_is_wish : DefQ P w K mg base 2 "is_wish" (sp_is_wish) := ⟨f_is_wish, PySem.W.mg_of X G a_is_wish, q_is_wish⟩
  have F_is_knot_wish : FunAt K "is_knot_wish" "is_knot_wish" st_is_knot_wish f_is_knot_wish P_is_knot_wish := funAt l_is_knot_wish c_is_knot_wish k_is_knot_wish fun _ _ _ _ _ _ us hl => match us, hl with | [_], _ => rfl
  have q_is_knot_wish : FnQ P w K mg base 3 f_is_knot_wish (sp_is_knot_wish) := fnAt F_is_knot_wish sc_is_knot_wish (bd_is_knot_wish T d_is_wish d_is_number)
  have d_is_knot_wish : DefQ P w K mg base 3 "is_knot_wish" (sp_is_knot_wish) := ⟨f_is_knot_wish, PySem.W.mg_of X G a_is_knot_wish, q_is_knot_wish⟩
  have F_is_motif : FunAt K "is_motif" "is_motif" st_is_motif f_is_motif P_is_motif := funAt l_is_motif c_is_motif k_is_motif fun _ _ _ _ _ _ us hl => match us, hl with | [_], _ => rfl
  have q_is_motif : FnQ P w K mg base 4 f_is_motif (sp_is_motif) := fnAt F_is_motif sc_is_motif (bd_is_motif T d_are_rows_of d_is_number d_is_knot_wish)
  have d_is_motif : DefQ P w K mg base 4 "is_motif" (sp_is_motif) := ⟨f_is_motif, PySem.W.mg_of X G a_is_motif, q_is_motif⟩
  have F_need_motif : FunAt K "need_motif" "need_motif" st_need_motif f_need_motif P_need_motif := funAt l_need_motif c_need_motif k_need_motif fun _ _ _ _ _ _ us hl => match us, hl with | [_], _ => rfl
  have q_need_motif : FnQ P w K mg base 5 f_need_motif (sp_need_motif) := fnAt F_need_motif sc_need_motif (bd_need_motif T d_is_motif)
  have d_need_motif : DefQ P w K mg base 5 "need_motif" (sp_need_motif) := ⟨f_need_motif, PySem.W.mg_of X G a_need_motif, q_need_motif⟩
  have F_need_start : FunAt K "need_start" "need_start" st_need_start f_need_start P_need_start := funAt l_need_start c_need_start k_need_start fun _ _ _ _ _ _ us hl => match us, hl with | [_, _], _ => rfl
  have q_need_start : FnQ P w K mg base 2 f_need_start (sp_need_start) := fnAt F_need_start sc_need_start (bd_need_start T d_is_number)
  have d_need_start : DefQ P w K mg base 2 "need_start" (sp_need_start) := ⟨f_need_start, PySem.W.mg_of X G a_need_start, q_need_start⟩
  have F_is_wish_form : FunAt K "is_wish_form" "is_wish_form" st_is_wish_form f_is_wish_form P_is_wish_form := funAt l_is_wish_form c_is_wish_form k_is_wish_form fun _ _ _ _ _ _ us hl => match us, hl with | [_, _, _], _ => rfl
  have q_is_wish_form : FnQ P w K mg base 2 f_is_wish_form (sp_is_wish_form) := fnAt F_is_wish_form sc_is_wish_form (bd_is_wish_form T d_is_number)
  have d_is_wish_form : DefQ P w K mg base 2 "is_wish_form" (sp_is_wish_form) := ⟨f_is_wish_form, PySem.W.mg_of X G a_is_wish_form, q_is_wish_form⟩
  have F_Web_tell : FunAt K "tell" "Web.tell" st_Web_tell f_Web_tell P_Web_tell := funAt l_Web_tell c_Web_tell k_Web_tell fun _ _ _ _ _ _ us hl => match us, hl with | [_, _, _, _], _ => rfl
  have q_Web_tell : FnQ P w K mg base 1 f_Web_tell (sp_Web_tell C_Web) := fnAt F_Web_tell sc_Web_tell (bd_Web_tell T)
  have d_Web_tell : MethQ P w K mg base 1 C_Web "tell" (sp_Web_tell C_Web) := ⟨f_Web_tell, ⟨a_Web_tell, i_Web_tell, k_Web_tell⟩, q_Web_tell⟩
  have F_node : FunAt K "node" "node" st_node f_node P_node := funAt l_node c_node k_node fun _ _ _ _ _ _ us hl => match us, hl with | [_, _, _], _ => rfl
  have q_node : FnQ P w K mg base 1 f_node (sp_node) := fnAt F_node sc_node (bd_node T)
  have d_node : DefQ P w K mg base 1 "node" (sp_node) := ⟨f_node, PySem.W.mg_of X G a_node, q_node⟩
  have F_Web_at : FunAt K "at" "Web.at" st_Web_at f_Web_at P_Web_at := funAt l_Web_at c_Web_at k_Web_at fun _ _ _ _ _ _ us hl => match us, hl with | [_, _, _], _ => rfl
  have q_Web_at : FnQ P w K mg base 2 f_Web_at (sp_Web_at C_Web) := fnAt F_Web_at sc_Web_at (bd_Web_at T d_node)
  have d_Web_at : MethQ P w K mg base 2 C_Web "at" (sp_Web_at C_Web) := ⟨f_Web_at, ⟨a_Web_at, i_Web_at, k_Web_at⟩, q_Web_at⟩
  have F_Web_tell_knot : FunAt K "tell_knot" "Web.tell_knot" st_Web_tell_knot f_Web_tell_knot P_Web_tell_knot := funAt l_Web_tell_knot c_Web_tell_knot k_Web_tell_knot fun _ _ _ _ _ _ us hl => match us, hl with | [_, _, _, _], _ => rfl
  have q_Web_tell_knot : FnQ P w K mg base 3 f_Web_tell_knot (sp_Web_tell_knot C_Web) := fnAt F_Web_tell_knot sc_Web_tell_knot (bd_Web_tell_knot T d_Web_at d_Web_tell)
  have d_Web_tell_knot : MethQ P w K mg base 3 C_Web "tell_knot" (sp_Web_tell_knot C_Web) := ⟨f_Web_tell_knot, ⟨a_Web_tell_knot, i_Web_tell_knot, k_Web_tell_knot⟩, q_Web_tell_knot⟩
  have F_Web_tell_line : FunAt K "tell_line" "Web.tell_line" st_Web_tell_line f_Web_tell_line P_Web_tell_line := funAt l_Web_tell_line c_Web_tell_line k_Web_tell_line fun _ _ _ _ _ _ us hl => match us, hl with | [_, _, _], _ => rfl
  have q_Web_tell_line : FnQ P w K mg base 3 f_Web_tell_line (sp_Web_tell_line C_Web) := fnAt F_Web_tell_line sc_Web_tell_line (bd_Web_tell_line T d_Web_at d_Web_tell)
  have d_Web_tell_line : MethQ P w K mg base 3 C_Web "tell_line" (sp_Web_tell_line C_Web) := ⟨f_Web_tell_line, ⟨a_Web_tell_line, i_Web_tell_line, k_Web_tell_line⟩, q_Web_tell_line⟩
  have F_Web___init__ : FunAt K "__init__" "Web.__init__" st_Web___init__ f_Web___init__ P_Web___init__ := funAt l_Web___init__ c_Web___init__ k_Web___init__ fun _ _ _ _ _ _ us hl => match us, hl with | [_, _], _ => rfl
  have q_Web___init__ : FnQ P w K mg base 4 f_Web___init__ (sp_Web___init__ C_Web) := fnAt F_Web___init__ sc_Web___init__ (bd_Web___init__ T d_Web_tell d_Web_at d_spots_of d_Web_tell_knot d_Web_tell_line)
  have d_Web___init__ : MakeQ P w K mg base 4 C_Web "Web" (sp_Web___init__ C_Web) := ⟨f_Web___init__, PySem.W.mg_of X G aC_Web, ⟨mk_Web, a_Web___init__, i_Web___init__, kc_Web⟩, q_Web___init__⟩
  have F_task_of_motifs : FunAt K "task_of_motifs" "task_of_motifs" st_task_of_motifs f_task_of_motifs P_task_of_motifs := funAt l_task_of_motifs c_task_of_motifs k_task_of_motifs fun _ _ _ _ _ _ us hl => match us, hl with | [_, _, _], _ => rfl
  have q_task_of_motifs : FnQ P w K mg base 1 f_task_of_motifs (sp_task_of_motifs) := fnAt F_task_of_motifs sc_task_of_motifs (bd_task_of_motifs T)
  have d_task_of_motifs : DefQ P w K mg base 1 "task_of_motifs" (sp_task_of_motifs) := ⟨f_task_of_motifs, PySem.W.mg_of X G a_task_of_motifs, q_task_of_motifs⟩
  have F_brought_near : FunAt K "brought_near" "brought_near" st_brought_near f_brought_near P_brought_near := funAt l_brought_near c_brought_near k_brought_near fun _ _ _ _ _ _ us hl => match us, hl with | [_, _, _], _ => rfl
  have q_brought_near : FnQ P w K mg base 1 f_brought_near (sp_brought_near) := fnAt F_brought_near sc_brought_near (bd_brought_near T)
  have d_brought_near : DefQ P w K mg base 1 "brought_near" (sp_brought_near) := ⟨f_brought_near, PySem.W.mg_of X G a_brought_near, q_brought_near⟩
  have F_is_never : FunAt K "is_never" "is_never" st_is_never f_is_never P_is_never := funAt l_is_never c_is_never k_is_never fun _ _ _ _ _ _ us hl => match us, hl with | [_, _, _], _ => rfl
  have q_is_never : FnQ P w K mg base 6 f_is_never (sp_is_never C_Web) := fnAt F_is_never sc_is_never (bd_is_never T d_is_number d_is_wish_form d_Web___init__ d_task_of_motifs d_brought_near)
  have d_is_never : DefQ P w K mg base 6 "is_never" (sp_is_never C_Web) := ⟨f_is_never, PySem.W.mg_of X G a_is_never, q_is_never⟩
  have F_is_lasting_paper : FunAt K "is_lasting_paper" "is_lasting_paper" st_is_lasting_paper f_is_lasting_paper P_is_lasting_paper := funAt l_is_lasting_paper c_is_lasting_paper k_is_lasting_paper fun _ _ _ _ _ _ us hl => match us, hl with | [_, _, _], _ => rfl
  have q_is_lasting_paper : FnQ P w K mg base 7 f_is_lasting_paper (sp_is_lasting_paper C_Web) := fnAt F_is_lasting_paper sc_is_lasting_paper (bd_is_lasting_paper T d_need_motif d_need_start d_is_never)
  have d_is_lasting_paper : DefQ P w K mg base 7 "is_lasting_paper" (sp_is_lasting_paper C_Web) := ⟨f_is_lasting_paper, PySem.W.mg_of X G a_is_lasting_paper, q_is_lasting_paper⟩
  exact law_imp (law_end (fun_mk (st := st_law) l_law c_law k_law) sc_law (bd_law T d__law_begun d__law_take d__law_wished_rows d__law_pick d__law_shuffled d__law_far_ring d__law_is_far_ring d__law_says d_is_lasting_paper)) fun ns hn => mathx ns C_Web hn
end K59
end
section
set_option Elab.async false
set_option linter.all false
open PySem PySem.W PyProof.Rows
set_option maxRecDepth 100000 in
set_option maxHeartbeats 0 in
theorem PySem.Challenge.cw_knotsinrows_k59_whole_rings_far_on_holds : PySem.Challenge.rw_knotsinrows_k59_whole_rings_far_on.Holds := by
  w_on; o_law; k_head; (case hw => w_witness2)
  k_fill
  refine TL.law_walk (l := PySem.Challenge.rw_knotsinrows_k59_whole_rings_far_on) 8 rfl rfl ⟨rfl, by decide, by decide⟩ (fun w h Y => PySem.W.kIn_of Y) ?F
  case F =>
    intro w mg fa h KX G hmg
    refine' K59.all_mk K59.law_math KX G hmg ?aC_Web ?pg_Web ?hd_Web ?po_Web ?sa_Web ?mk_Web ?kc_Web ?n_Web_many ?n_Web_threads ?n_Web_told ?a__law_begun ?l__law_begun ?c__law_begun ?k__law_begun ?a__law_mixed ?l__law_mixed ?c__law_mixed ?k__law_mixed ?a__law_take ?l__law_take ?c__law_take ?k__law_take ?a__law_pick ?l__law_pick ?c__law_pick ?k__law_pick ?a__law_spots ?l__law_spots ?c__law_spots ?k__law_spots ?a__law_wished_rows ?l__law_wished_rows ?c__law_wished_rows ?k__law_wished_rows ?a__law_shuffled ?l__law_shuffled ?c__law_shuffled ?k__law_shuffled ?a__law_node ?l__law_node ?c__law_node ?k__law_node ?a__law_far_ring ?l__law_far_ring ?c__law_far_ring ?k__law_far_ring ?a__law_is_int ?l__law_is_int ?c__law_is_int ?k__law_is_int ?a__law_row_wishes ?l__law_row_wishes ?c__law_row_wishes ?k__law_row_wishes ?a__law_knot_wishes ?l__law_knot_wishes ?c__law_knot_wishes ?k__law_knot_wishes ?a__law_number_of ?l__law_number_of ?c__law_number_of ?k__law_number_of ?a__law_is_far_ring ?l__law_is_far_ring ?c__law_is_far_ring ?k__law_is_far_ring ?a__law_says ?l__law_says ?c__law_says ?k__law_says ?a_spots_of ?l_spots_of ?c_spots_of ?k_spots_of ?a_are_rows_of ?l_are_rows_of ?c_are_rows_of ?k_are_rows_of ?a_is_number ?l_is_number ?c_is_number ?k_is_number ?a_is_wish ?l_is_wish ?c_is_wish ?k_is_wish ?a_is_knot_wish ?l_is_knot_wish ?c_is_knot_wish ?k_is_knot_wish ?a_is_motif ?l_is_motif ?c_is_motif ?k_is_motif ?a_need_motif ?l_need_motif ?c_need_motif ?k_need_motif ?a_need_start ?l_need_start ?c_need_start ?k_need_start ?a_is_wish_form ?l_is_wish_form ?c_is_wish_form ?k_is_wish_form ?a_Web_tell ?i_Web_tell ?l_Web_tell ?c_Web_tell ?k_Web_tell ?a_node ?l_node ?c_node ?k_node ?a_Web_at ?i_Web_at ?l_Web_at ?c_Web_at ?k_Web_at ?a_Web_tell_knot ?i_Web_tell_knot ?l_Web_tell_knot ?c_Web_tell_knot ?k_Web_tell_knot ?a_Web_tell_line ?i_Web_tell_line ?l_Web_tell_line ?c_Web_tell_line ?k_Web_tell_line ?a_Web___init__ ?i_Web___init__ ?l_Web___init__ ?c_Web___init__ ?k_Web___init__ ?a_task_of_motifs ?l_task_of_motifs ?c_task_of_motifs ?k_task_of_motifs ?a_brought_near ?l_brought_near ?c_brought_near ?k_brought_near ?a_is_never ?l_is_never ?c_is_never ?k_is_never ?a_is_lasting_paper ?l_is_lasting_paper ?c_is_lasting_paper ?k_is_lasting_paper ?a_law ?l_law ?c_law ?k_law ?z_abs ?z_all ?z_bool ?z_enumerate ?z_int ?z_isinstance ?z_len ?z_list ?z_max ?z_min ?z_range ?z_set ?z_sorted ?z_str ?z_sum ?z_tuple ?z_zip ?g_MOST_ROWS ?g_MOST_THREADS ?g_NEAR_MOTIFS ?g_PAIRS ?t_4 ?t_5 ?t_8 ?t_11
    (case aC_Web => k_is)
    (case pg_Web => k_is)
    (case hd_Web => k_is)
    (case po_Web => k_is)
    (case sa_Web => k_is)
    (case mk_Web => k_is)
    (case kc_Web => k_is)
    (case n_Web_many => k_is)
    (case n_Web_threads => k_is)
    (case n_Web_told => k_is)
    (case a__law_begun => k_is)
    (case l__law_begun => k_is)
    (case c__law_begun => k_is)
    (case k__law_begun => k_is)
    (case a__law_mixed => k_is)
    (case l__law_mixed => k_is)
    (case c__law_mixed => k_is)
    (case k__law_mixed => k_is)
    (case a__law_take => k_is)
    (case l__law_take => k_is)
    (case c__law_take => k_is)
    (case k__law_take => k_is)
    (case a__law_pick => k_is)
    (case l__law_pick => k_is)
    (case c__law_pick => k_is)
    (case k__law_pick => k_is)
    (case a__law_spots => k_is)
    (case l__law_spots => k_is)
    (case c__law_spots => k_is)
    (case k__law_spots => k_is)
    (case a__law_wished_rows => k_is)
    (case l__law_wished_rows => k_is)
    (case c__law_wished_rows => k_is)
    (case k__law_wished_rows => k_is)
    (case a__law_shuffled => k_is)
    (case l__law_shuffled => k_is)
    (case c__law_shuffled => k_is)
    (case k__law_shuffled => k_is)
    (case a__law_node => k_is)
    (case l__law_node => k_is)
    (case c__law_node => k_is)
    (case k__law_node => k_is)
    (case a__law_far_ring => k_is)
    (case l__law_far_ring => k_is)
    (case c__law_far_ring => k_is)
    (case k__law_far_ring => k_is)
    (case a__law_is_int => k_is)
    (case l__law_is_int => k_is)
    (case c__law_is_int => k_is)
    (case k__law_is_int => k_is)
    (case a__law_row_wishes => k_is)
    (case l__law_row_wishes => k_is)
    (case c__law_row_wishes => k_is)
    (case k__law_row_wishes => k_is)
    (case a__law_knot_wishes => k_is)
    (case l__law_knot_wishes => k_is)
    (case c__law_knot_wishes => k_is)
    (case k__law_knot_wishes => k_is)
    (case a__law_number_of => k_is)
    (case l__law_number_of => k_is)
    (case c__law_number_of => k_is)
    (case k__law_number_of => k_is)
    (case a__law_is_far_ring => k_is)
    (case l__law_is_far_ring => k_is)
    (case c__law_is_far_ring => k_is)
    (case k__law_is_far_ring => k_is)
    (case a__law_says => k_is)
    (case l__law_says => k_is)
    (case c__law_says => k_is)
    (case k__law_says => k_is)
    (case a_spots_of => k_is)
    (case l_spots_of => k_is)
    (case c_spots_of => k_is)
    (case k_spots_of => k_is)
    (case a_are_rows_of => k_is)
    (case l_are_rows_of => k_is)
    (case c_are_rows_of => k_is)
    (case k_are_rows_of => k_is)
    (case a_is_number => k_is)
    (case l_is_number => k_is)
    (case c_is_number => k_is)
    (case k_is_number => k_is)
    (case a_is_wish => k_is)
    (case l_is_wish => k_is)
    (case c_is_wish => k_is)
    (case k_is_wish => k_is)
    (case a_is_knot_wish => k_is)
    (case l_is_knot_wish => k_is)
    (case c_is_knot_wish => k_is)
    (case k_is_knot_wish => k_is)
    (case a_is_motif => k_is)
    (case l_is_motif => k_is)
    (case c_is_motif => k_is)
    (case k_is_motif => k_is)
    (case a_need_motif => k_is)
    (case l_need_motif => k_is)
    (case c_need_motif => k_is)
    (case k_need_motif => k_is)
    (case a_need_start => k_is)
    (case l_need_start => k_is)
    (case c_need_start => k_is)
    (case k_need_start => k_is)
    (case a_is_wish_form => k_is)
    (case l_is_wish_form => k_is)
    (case c_is_wish_form => k_is)
    (case k_is_wish_form => k_is)
    (case a_Web_tell => k_is)
    (case i_Web_tell => k_is)
    (case l_Web_tell => k_is)
    (case c_Web_tell => k_is)
    (case k_Web_tell => k_is)
    (case a_node => k_is)
    (case l_node => k_is)
    (case c_node => k_is)
    (case k_node => k_is)
    (case a_Web_at => k_is)
    (case i_Web_at => k_is)
    (case l_Web_at => k_is)
    (case c_Web_at => k_is)
    (case k_Web_at => k_is)
    (case a_Web_tell_knot => k_is)
    (case i_Web_tell_knot => k_is)
    (case l_Web_tell_knot => k_is)
    (case c_Web_tell_knot => k_is)
    (case k_Web_tell_knot => k_is)
    (case a_Web_tell_line => k_is)
    (case i_Web_tell_line => k_is)
    (case l_Web_tell_line => k_is)
    (case c_Web_tell_line => k_is)
    (case k_Web_tell_line => k_is)
    (case a_Web___init__ => k_is)
    (case i_Web___init__ => k_is)
    (case l_Web___init__ => k_is)
    (case c_Web___init__ => k_is)
    (case k_Web___init__ => k_is)
    (case a_task_of_motifs => k_is)
    (case l_task_of_motifs => k_is)
    (case c_task_of_motifs => k_is)
    (case k_task_of_motifs => k_is)
    (case a_brought_near => k_is)
    (case l_brought_near => k_is)
    (case c_brought_near => k_is)
    (case k_brought_near => k_is)
    (case a_is_never => k_is)
    (case l_is_never => k_is)
    (case c_is_never => k_is)
    (case k_is_never => k_is)
    (case a_is_lasting_paper => k_is)
    (case l_is_lasting_paper => k_is)
    (case c_is_lasting_paper => k_is)
    (case k_is_lasting_paper => k_is)
    (case a_law => k_is)
    (case l_law => k_is)
    (case c_law => k_is)
    (case k_law => k_is)
    (case z_abs => k_is)
    (case z_all => k_is)
    (case z_bool => k_is)
    (case z_enumerate => k_is)
    (case z_int => k_is)
    (case z_isinstance => k_is)
    (case z_len => k_is)
    (case z_list => k_is)
    (case z_max => k_is)
    (case z_min => k_is)
    (case z_range => k_is)
    (case z_set => k_is)
    (case z_sorted => k_is)
    (case z_str => k_is)
    (case z_sum => k_is)
    (case z_tuple => k_is)
    (case z_zip => k_is)
    (case g_MOST_ROWS => k_is)
    (case g_MOST_THREADS => k_is)
    (case g_NEAR_MOTIFS => k_is)
    (case g_PAIRS => k_is)
    (case t_4 => k_is)
    (case t_5 => k_is)
    (case t_8 => k_is)
    (case t_11 => k_is)
end
